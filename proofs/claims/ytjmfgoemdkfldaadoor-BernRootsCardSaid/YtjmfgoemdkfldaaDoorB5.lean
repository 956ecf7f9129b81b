/- Part B5 of the proof that the law named in the last file returns true at every input and leaves its arguments as they were; no condition of its own. -/
import Derived.Test.YtjmfgoemdkfldaaDoorB4
import Derived.Test.YtjmfgoemdkfldaaDoorA2
import Derived.Test.YtjmfgoemdkfldaaDoorB3
import Derived.Test.YtjmfgoemdkfldaaDoorRows
import Derived.WalkKit
import Derived.ProofKit
import Derived.OpenShut
import Derived.LaidMore
import Derived.ChangeOld
import Derived.Below
import Derived.SevenTiedAt
import Derived.Stop.Joined
set_option linter.unusedSimpArgs false
set_option linter.unusedVariables false
/- Bern: Positive, Roots, Count. -/
namespace Go.Am.Bern
open Go Go.Am Go.Proofs
def get63 (_ : List AV) (obs : List Ob) : Option (List Int × Memo) :=
 match obs with
 | [c, m] => (match unCv c, unMm m with
   | some p, some m => some (p, m)
   | _, _ => none)
 | _ => none
theorem en63 : Enters Tryd.prog 63 := ⟨Tryd.f63, by kernel_rfl, by kernel_rfl, by kernel_rfl⟩
noncomputable def e63N : Entry Tryd.prog gl := entryW 63 en63 true get63 (fun x => isPoly x.1 ∧ memoOk x.1 x.2 ∧ P71.coverB x.1 = false) false (fun _ => P71.a63) (fun x => [cvO x.1, mmO x.2]) (fun _ => [nl]) (fun x => [cvO x.1, mmO (P71.coverM x.1 x.2)]) (fun x h => P71.call63N x.1 x.2 h.1 h.2.1 h.2.2)
noncomputable def e63O : Entry Tryd.prog gl := entryW 63 en63 true get63 (fun x => isPoly x.1 ∧ memoOk x.1 x.2 ∧ P71.coverB x.1 = true) false (fun _ => P71.a63) (fun x => [cvO x.1, mmO x.2]) (fun _ => [.own 2 0]) (fun x => [cvO x.1, mmO (P71.coverM x.1 x.2), pieO 0 (P71.coverL x.1)]) (fun x h => P71.call63O x.1 x.2 h.1 h.2.1 h.2.2)
noncomputable def e63n : Entry Tryd.prog gl := entryW 63 en63 true get63 (fun x => isPoly x.1 ∧ memoOk x.1 x.2 ∧ P64.coverB x.1 = false) false (fun _ => P64.a63) (fun x => [cvO x.1, mmO x.2]) (fun _ => [nl]) (fun x => [cvO x.1, mmO (P64.coverM x.1 x.2)]) (fun x h => P64.call63N x.1 x.2 h.1 h.2.1 h.2.2)
noncomputable def e63o : Entry Tryd.prog gl := entryW 63 en63 true get63 (fun x => isPoly x.1 ∧ memoOk x.1 x.2 ∧ P64.coverB x.1 = true) false (fun _ => P64.a63) (fun x => [cvO x.1, mmO x.2]) (fun _ => [.own 2 0]) (fun x => [cvO x.1, mmO (P64.coverM x.1 x.2), pieO 0 (P64.coverL x.1)]) (fun x h => P64.call63O x.1 x.2 h.1 h.2.1 h.2.2)
def posB (p : List Int) : Bool := decide (isPoly p) && P71.coverB p
def posK (p : List Int) : List PQ := if posB p then P71.coverL p else []
theorem errOf_pos {p : List Int} (h : ¬ errOf p = 0) : ¬ isPoly p := fun hp => h (by simp [errOf, hp])
theorem errOf_zero {p : List Int} (h : ¬¬ errOf p = 0) : isPoly p := by
 false_or_by_contra; rename_i hn; exact h (by simp [errOf, hn])
theorem call26 (p : List Int) (h : p.length < 1000000) : GCall Tryd.prog gl 26 false [.sl I64 p] [] [.bool (posB p), .sl Q2 (posK p), .int .i64 (errOf p)] [] := by
 have hlen : (P71.coverL p).length ≤ 64 := grL_len _ p 6 0 0
 by_cases hb : P71.coverB p = true
 · refine gcall_of (X := (Xd [e56, e62, e66, e63O] (drOf [(4, 1000000)]))) ((Xd_ok _ _)) (f := 26) (fn := Tryd.f26) (c := bodyOf Tryd.f26) (by kernel_rfl) (by kernel_rfl) (view := true) (rvs := [.tmp 2, .tmp 3, .tmp 4]) (by kernel_rfl) (H := fun _ => none) 80 (by kernel_rfl) ?_
   refine of_eq (q := True ∧ True ∧ True ∧ True ∧ (p.length + 1 ≤ 1000000 ∧ True) ∧ True ∧ True ∧ True ∧ (¬errOf p = 0 → True ∧ True ∧ True ∧ True ∧ True ∧ (false = posB p ∧ ([] : List (Int × Int)) = posK p ∧ errOf p = errOf p ∧ True) ∧ True) ∧ (¬¬errOf p = 0 → ((True ∧ ((True ∧ True) ∧ (True ∧ ((((isPoly p ∧ memoOk p [] ∧ P71.coverB p = true) ∧ (True ∧ ((0 : Int) = 0 ∧ (0 : Int) = 0 ∧ True) ∧ (True ∧ True) ∧ True) ∧ (p = p ∧ True ∧ True) ∧ ([] : List ((Int × Int) × List (Int × Int))) = [] ∧ True) ∧ True ∧ True ∧ True) ∧ (True ∧ (p = p ∧ false = false ∧ True ∧ (0 : Int) = 0 ∧ errOf p = errOf p ∧ True ∧ p = p ∧ errOf p = errOf p ∧ errOf p = errOf p ∧ false = false ∧ p = p ∧ True ∧ ((0 : Int) = 0 ∧ (0 : Int) = 0 ∧ True) ∧ True ∧ True) ∧ (p = p ∧ True ∧ True) ∧ P71.coverM p [] = P71.coverM p [] ∧ P71.coverL p = P71.coverL p ∧ True) ∧ True) ∧ True) ∧ True) ∧ (True ∧ ((True ∧ True) ∧ ((((isPoly p ∧ memoOk p [] ∧ P71.coverB p = true) ∧ (True ∧ ((0 : Int) = 0 ∧ (0 : Int) = 0 ∧ True) ∧ (True ∧ True) ∧ True) ∧ (p = p ∧ True ∧ True) ∧ ([] : List ((Int × Int) × List (Int × Int))) = [] ∧ True) ∧ True ∧ True ∧ True) ∧ (True ∧ (p = p ∧ false = false ∧ True ∧ (0 : Int) = 0 ∧ errOf p = errOf p ∧ True ∧ p = p ∧ errOf p = errOf p ∧ errOf p = errOf p ∧ false = false ∧ p = p ∧ True ∧ ((0 : Int) = 0 ∧ (0 : Int) = 0 ∧ True) ∧ True ∧ True) ∧ (p = p ∧ True ∧ True) ∧ P71.coverM p [] = P71.coverM p [] ∧ P71.coverL p = P71.coverL p ∧ True) ∧ True) ∧ True) ∧ True) ∧ True) ∧ (True ∧ (True ∧ ((True ∧ True) ∧ ((((isPoly p ∧ memoOk p [] ∧ P71.coverB p = true) ∧ (True ∧ ((0 : Int) = 0 ∧ (0 : Int) = 0 ∧ True) ∧ (True ∧ True) ∧ True) ∧ (p = p ∧ True ∧ True) ∧ ([] : List ((Int × Int) × List (Int × Int))) = [] ∧ True) ∧ True ∧ True ∧ True) ∧ (True ∧ (p = p ∧ false = false ∧ True ∧ (0 : Int) = 0 ∧ errOf p = errOf p ∧ True ∧ p = p ∧ errOf p = errOf p ∧ errOf p = errOf p ∧ false = false ∧ p = p ∧ True ∧ ((0 : Int) = 0 ∧ (0 : Int) = 0 ∧ True) ∧ True ∧ True) ∧ (p = p ∧ True ∧ True) ∧ P71.coverM p [] = P71.coverM p [] ∧ P71.coverL p = P71.coverL p ∧ True) ∧ True) ∧ True) ∧ True) ∧ True) ∧ True) ∧ True ∧ True ∧ True ∧ ((P71.coverL p).length + 1 ≤ 1000000 ∧ True) ∧ True ∧ True ∧ True ∧ True ∧ (true = posB p ∧ P71.coverL p = posK p ∧ (0 : Int) = errOf p ∧ True) ∧ True)) (by kernel_rfl) ?_
   simp only [true_and, and_true, false_and, and_false, or_false, false_or, exists_const, exists_false, rat_num_den, rat_int, Int.toNat_natCast]
   refine ⟨by omega, fun he => ?_, fun he => ?_⟩
   · have := errOf_pos he
     simp [posK, posB, this]
   · have hp := errOf_zero he
     exact ⟨⟨⟨⟨hp, memoOk_nil p, hb⟩, ⟨hp, memoOk_nil p, hb⟩⟩, ⟨hp, memoOk_nil p, hb⟩⟩, by omega, by simp [posB, hp, hb], by simp [posK, posB, hp, hb], by simp [errOf, hp]⟩
 · have hb : P71.coverB p = false := by simpa using hb
   refine gcall_of (X := (Xd [e56, e62, e66, e63N] (drOf [(4, 1000000)]))) ((Xd_ok _ _)) (f := 26) (fn := Tryd.f26) (c := bodyOf Tryd.f26) (by kernel_rfl) (by kernel_rfl) (view := true) (rvs := [.tmp 2, .tmp 3, .tmp 4]) (by kernel_rfl) (H := fun _ => none) 80 (by kernel_rfl) ?_
   refine of_eq (q := True ∧ True ∧ True ∧ True ∧ (p.length + 1 ≤ 1000000 ∧ True) ∧ True ∧ True ∧ True ∧ (¬errOf p = 0 → True ∧ True ∧ True ∧ True ∧ True ∧ (false = posB p ∧ ([] : List (Int × Int)) = posK p ∧ errOf p = errOf p ∧ True) ∧ True) ∧ (¬¬errOf p = 0 → ((True ∧ ((True ∧ True) ∧ (True ∧ ((((isPoly p ∧ memoOk p [] ∧ P71.coverB p = false) ∧ (True ∧ ((0 : Int) = 0 ∧ (0 : Int) = 0 ∧ True) ∧ (True ∧ True) ∧ True) ∧ (p = p ∧ True ∧ True) ∧ ([] : List ((Int × Int) × List (Int × Int))) = [] ∧ True) ∧ True ∧ True ∧ True) ∧ (True ∧ (p = p ∧ false = false ∧ True ∧ (0 : Int) = 0 ∧ errOf p = errOf p ∧ True ∧ p = p ∧ errOf p = errOf p ∧ errOf p = errOf p ∧ false = false ∧ p = p ∧ True ∧ ((0 : Int) = 0 ∧ (0 : Int) = 0 ∧ True) ∧ True ∧ True) ∧ (p = p ∧ True ∧ True) ∧ P71.coverM p [] = P71.coverM p [] ∧ True) ∧ True) ∧ True) ∧ True) ∧ (True ∧ ((True ∧ True) ∧ ((((isPoly p ∧ memoOk p [] ∧ P71.coverB p = false) ∧ (True ∧ ((0 : Int) = 0 ∧ (0 : Int) = 0 ∧ True) ∧ (True ∧ True) ∧ True) ∧ (p = p ∧ True ∧ True) ∧ ([] : List ((Int × Int) × List (Int × Int))) = [] ∧ True) ∧ True ∧ True ∧ True) ∧ (True ∧ (p = p ∧ false = false ∧ True ∧ (0 : Int) = 0 ∧ errOf p = errOf p ∧ True ∧ p = p ∧ errOf p = errOf p ∧ errOf p = errOf p ∧ false = false ∧ p = p ∧ True ∧ ((0 : Int) = 0 ∧ (0 : Int) = 0 ∧ True) ∧ True ∧ True) ∧ (p = p ∧ True ∧ True) ∧ P71.coverM p [] = P71.coverM p [] ∧ True) ∧ True) ∧ True) ∧ True) ∧ True) ∧ (True ∧ (True ∧ ((True ∧ True) ∧ ((((isPoly p ∧ memoOk p [] ∧ P71.coverB p = false) ∧ (True ∧ ((0 : Int) = 0 ∧ (0 : Int) = 0 ∧ True) ∧ (True ∧ True) ∧ True) ∧ (p = p ∧ True ∧ True) ∧ ([] : List ((Int × Int) × List (Int × Int))) = [] ∧ True) ∧ True ∧ True ∧ True) ∧ (True ∧ (p = p ∧ false = false ∧ True ∧ (0 : Int) = 0 ∧ errOf p = errOf p ∧ True ∧ p = p ∧ errOf p = errOf p ∧ errOf p = errOf p ∧ false = false ∧ p = p ∧ True ∧ ((0 : Int) = 0 ∧ (0 : Int) = 0 ∧ True) ∧ True ∧ True) ∧ (p = p ∧ True ∧ True) ∧ P71.coverM p [] = P71.coverM p [] ∧ True) ∧ True) ∧ True) ∧ True) ∧ True) ∧ True) ∧ True ∧ True ∧ True ∧ ((1 : Nat) ≤ 1000000 ∧ True) ∧ True ∧ True ∧ True ∧ True ∧ (false = posB p ∧ ([] : List (Int × Int)) = posK p ∧ (0 : Int) = errOf p ∧ True) ∧ True)) (by kernel_rfl) ?_
   simp only [true_and, and_true, false_and, and_false, or_false, false_or, exists_const, exists_false, rat_num_den, rat_int, Int.toNat_natCast]
   refine ⟨by omega, fun he => ?_, fun he => ?_⟩
   · have := errOf_pos he
     simp [posK, posB, this]
   · have hp := errOf_zero he
     exact ⟨⟨⟨⟨hp, memoOk_nil p, hb⟩, ⟨hp, memoOk_nil p, hb⟩⟩, ⟨hp, memoOk_nil p, hb⟩⟩, by omega, by simp [posB, hp, hb], by simp [posK, posB, hp, hb], by simp [errOf, hp]⟩
def e26 : Entry Tryd.prog gl := entry1 26 ⟨Tryd.f26, by kernel_rfl, by kernel_rfl, by kernel_rfl⟩ SI (fun p => p.length < 1000000) false (fun p => [.bool (posB p), .sl Q2 (posK p), .int .i64 (errOf p)]) (fun _ => []) (call26)
def ob68 (p : List Int) (m : Memo) : List Ob := [.bx (.ptr 1 0 []), cvB p 2, mmO m]
def cgz (p : List Int) (q : PQ) : Bool := decide (chg (qc p q.1.toNat q.2.toNat) = 0)
def cmq (p : List Int) (m : Memo) (q : PQ) : Memo := cm p q.1.toNat q.2.toNat m
theorem call68 (p : List Int) (m : Memo) (q : PQ) (h : pre69 7 p m q) : GCall Tryd.prog gl 68 false [ofD FR q, .ptr 0 0 []] (ob68 p m) [.bool (cgz p q)] (ob68 p (cmq p m q)) := by
 refine gcall_of (X := (Xm [e69, e65] 3 (fun _ => none))) ((Xm_ok _ _ _)) (f := 68) (fn := Tryd.f68) (c := bodyOf Tryd.f68) (by kernel_rfl) (by kernel_rfl) (view := false) (rvs := [.tmp 3]) (by kernel_rfl) (H := fun _ => none) 80 (by kernel_rfl) ?_
 refine of_eq (q := True ∧ True ∧ True ∧ True ∧ ((isPoly p ∧ isPiece (q.fst, q.snd) ∧ q.fst < 7 ∧ memoOk p m) ∧ True ∧ True ∧ True) ∧ ((qc p (Int.toNat q.fst) (Int.toNat q.snd)).length + 1 ≤ 1000000 ∧ True) ∧ True ∧ True ∧ True ∧ (decide ((↑(chg (qc p (Int.toNat q.fst) (Int.toNat q.snd))) : Int) = 0) = cgz p q ∧ True) ∧ True ∧ (p = p ∧ True ∧ True) ∧ cm p (Int.toNat q.fst) (Int.toNat q.snd) m = cmq p m q ∧ True) (by kernel_rfl) ?_
 simp only [true_and, and_true, false_and, and_false, or_false, false_or, exists_const, exists_false, rat_num_den, rat_int, Int.toNat_natCast]
 have hln := qc_length p q.1.toNat q.2.toNat
 have := h.1.2.1
 refine ⟨⟨h.1, h.2.1, h.2.2.1, h.2.2.2⟩, by omega, ?_, rfl⟩
 unfold cgz; simp
def get68 (xs : List AV) (obs : List Ob) : Option (PQ × List Int × Memo) :=
 match xs with
 | [x, _] => (match toD FR x, unCvB (obs.getD 1 .gone), unMm (obs.getD 2 .gone) with
   | some q, some p, some m => some (q, p, m)
   | _, _, _ => none)
 | _ => none
theorem en68 : Enters Tryd.prog 68 := ⟨Tryd.f68, by kernel_rfl, by kernel_rfl, by kernel_rfl⟩
def e68 : Entry Tryd.prog gl := entryW 68 en68 true get68 (fun x => pre69 7 x.2.1 x.2.2 x.1) false (fun x => [ofD FR x.1, .ptr 0 0 []]) (fun x => ob68 x.2.1 x.2.2) (fun x => [.bool (cgz x.2.1 x.1)]) (fun x => ob68 x.2.1 (cmq x.2.1 x.2.2 x.1)) (fun x h => call68 x.2.1 x.2.2 x.1 h)
/-- Pieces of a list, one after the other. -/
def cms (p : List Int) (l : List PQ) (m : Memo) : Memo := l.foldl (cmq p) m
def pcs (p : List Int) (l : List PQ) : Prop := isPoly p ∧ l.length < 1000000 ∧ ∀ q ∈ l, isPiece q
theorem cmq_ok {p : List Int} {m : Memo} {q : PQ} (hm : memoOk p m) : memoOk p (cmq p m q) := cm_ok hm
theorem cms_ok {p : List Int} : ∀ {l : List PQ} {m : Memo}, memoOk p m → memoOk p (cms p l m)
 | [], m, h => h
 | q :: l, m, h => cms_ok (l := l) (cmq_ok h)
theorem cms_snoc (p : List Int) (l : List PQ) (q : PQ) (m : Memo) : cms p (l ++ [q]) m = cmq p (cms p l m) q := by simp [cms, List.foldl_append]
def zIdx (p : List Int) (l : List PQ) : Nat := l.findIdx (cgz p)
def zIdxR (p : List Int) (l : List PQ) : Int := if ∃ q ∈ l, cgz p q = true then (zIdx p l : Int) else -1
def obD (v : Nat) (l : List PQ) (p : List Int) (m : Memo) : List Ob := [pieO v l, .bx (.ptr 2 0 []), cvB p 3, mmO m]
def clo68 : AV := .clo 68 [] [.ptr 1 0 []]
theorem find_b {f : PQ → Bool} {l : List PQ} {k : Nat} (hk : k < l.length) (h : ∀ x ∈ l.take k, f x = false) (hx : f (l.getD k (0, 0)) = true) : l.findIdx f = k := by
 induction l generalizing k with
 | nil => simp at hk
 | cons a l ih =>
   cases k with
   | zero => simp at hx; simp [List.findIdx_cons, hx]
   | succ k =>
     have ha : f a = false := h a (by simp)
     rw [List.findIdx_cons, ha]
     simp only [cond_false]
     rw [ih (by simpa using hk) (fun x hx => h x (by simp [hx])) (by simpa using hx)]
theorem find_none {f : PQ → Bool} : ∀ {l : List PQ}, (∀ x ∈ l, f x = false) → l.findIdx f = l.length
 | [], _ => rfl
 | a :: l, h => by
   rw [List.findIdx_cons, h a (by simp)]
   simp only [cond_false]
   rw [find_none fun x hx => h x (by simp [hx])]; try rfl
theorem take_memD {l : List PQ} {k : Nat} {P : PQ → Prop} (hk : k < l.length) (h : ∀ q ∈ l.take k, P q) (hx : P (l.getD k (0, 0))) : ∀ q ∈ l.take (k + 1), P q := by
 rw [take_getD (d := (0, 0)) hk]
 intro q hq
 simp only [List.mem_append, List.mem_singleton] at hq
 rcases hq with hq | hq
 · exact h q hq
 · rw [hq]; exact hx
noncomputable def L93_0 : Code := lp (bodyOf Tryd.f93) 0
def inv93 (p : List Int) (l : List PQ) (k : Nat) : Prop := k ≤ l.length ∧ ∀ q ∈ l.take k, cgz p q = false
def st93 (p : List Int) (l : List PQ) (m : Memo) (k : Nat) : St := ⟨.own 0 0 :: clo68 :: .dead :: .dead :: .dead :: .dead :: .dead :: .int .i64 l.length :: .int .i64 k :: dd 10, obD 0 l p (cms p (l.take k) m)⟩
def ex93 (p : List Int) (l : List PQ) (m : Memo) : List (List Nat × Ex) := [([], ⟨0, Unit, fun _ => ∀ q ∈ l, cgz p q = false, fun _ => ⟨dd 19, obD 0 l p (cms p l m)⟩⟩)]
noncomputable def H93 (p : List Int) (l : List PQ) (m : Memo) : Nat → Option Hint := fun _ => some ⟨chk 4 [0, 1, 7, 8] (inv93 p l) (st93 p l m), (ex93 p l m).map (·.2)⟩
theorem loop93 (p : List Int) (l : List PQ) (m : Memo) (hp : pcs p l) (hm : memoOk p m) : LoopOK (Xm [e68] 4 (fun _ => none)) L93_0 ⟨chk 4 [0, 1, 7, 8] (inv93 p l) (st93 p l m), (ex93 p l m).map (·.2)⟩
   (RetR (Xm [e68] 4 (fun _ => none)) false false [.tmp 4] [.int .i64 (zIdxR p l)] (obD 0 l p (cms p (l.take (zIdx p l + 1)) m))) := by
 refine loop_ok (Xm_ok _ _ _) (H := fun _ _ => none) [0, 1, 7, 8] (inv93 p l) (st93 p l m) (fun k => l.length - k) (ex93 p l m) 90 fun (k : Nat) hk => ?_
 refine of_eq (q := True ∧ ((k : Int) < (l.length : Int) → True ∧ True ∧ True ∧ True ∧ True ∧ idxPre (k : Int) l.length ∧ True ∧ ((pre69 (7 : Int) p (cms p (List.take k l) m) ((l.getD k (0, 0)).fst, (l.getD k (0, 0)).snd) ∧ (((l.getD k (0, 0)).fst = (l.getD k (0, 0)).fst ∧ (l.getD k (0, 0)).snd = (l.getD k (0, 0)).snd ∧ True) ∧ True ∧ True) ∧ True ∧ (p = p ∧ True ∧ True) ∧ cms p (List.take k l) m = cms p (List.take k l) m ∧ True) ∧ True ∧ True ∧ True ∧ True) ∧ (cgz p ((l.getD k (0, 0)).fst, (l.getD k (0, 0)).snd) = true → True ∧ True ∧ True ∧ ((k : Int) = zIdxR p l ∧ True) ∧ l = l ∧ True ∧ (p = p ∧ True ∧ True) ∧ cmq p (cms p (List.take k l) m) ((l.getD k (0, 0)).fst, (l.getD k (0, 0)).snd) = cms p (List.take (zIdx p l + 1) l) m ∧ True) ∧ (cgz p ((l.getD k (0, 0)).fst, (l.getD k (0, 0)).snd) = false → inR .i64 ((k : Int) + 1) ∧ True ∧ ∃ (y : Nat), (inv93 p l y ∧ l.length - y < l.length - k) ∧ (True ∧ (True ∧ True ∧ True) ∧ (l.length : Int) = (l.length : Int) ∧ (k : Int) + 1 = (y : Int) ∧ True) ∧ l = l ∧ True ∧ (p = p ∧ True ∧ True) ∧ cmq p (cms p (List.take k l) m) ((l.getD k (0, 0)).fst, (l.getD k (0, 0)).snd) = cms p (List.take y l) m ∧ True)) ∧ (¬(k : Int) < (l.length : Int) → ∃ (y : Unit), (∀ (q : PQ), q ∈ l → cgz p q = false) ∧ True ∧ l = l ∧ True ∧ (p = p ∧ True ∧ True) ∧ cms p (List.take k l) m = cms p l m ∧ True)) (by kernel_rfl) ?_
 simp only [true_and, and_true, false_and, and_false, or_false, false_or, exists_const, exists_false, rat_num_den, rat_int, Int.toNat_natCast]
 obtain ⟨h1, h2⟩ := hk
 have hz : ∀ k, k < l.length → l.getD k (0, 0) ∈ l := fun k hk => getD_mem hk
 refine ⟨fun hk => ?_, fun hk => ?_⟩
 · have hk : k < l.length := by omega
   have hmem := hz k hk
   have hpc := hp.2.2 _ hmem
   have hl := hp.2.1
   have e1 : ((l.getD k (0, 0)).1, (l.getD k (0, 0)).2) = l.getD k (0, 0) := rfl
   rw [e1]
   refine ⟨by unfold idxPre; omega, ⟨hp.1, hpc, by have := hpc.2.1; omega, cms_ok hm⟩, fun hx => ?_, fun hx => ⟨by simp only [inR]; omega, k + 1, ⟨⟨by omega, take_memD hk h2 hx⟩, by omega⟩, by omega, ?_⟩⟩
   · have hf := find_b hk h2 hx
     have : ∃ q ∈ l, cgz p q = true := ⟨_, hmem, hx⟩
     refine ⟨by unfold zIdxR; rw [if_pos this]; unfold zIdx; rw [hf], ?_⟩
     unfold zIdx
     rw [hf, take_getD (d := (0, 0)) hk, cms_snoc]
   · rw [take_getD (d := (0, 0)) hk, cms_snoc]
 · have : l.take k = l := List.take_of_length_le (by omega)
   rw [this] at h2
   rw [this]
   exact ⟨h2, rfl⟩
theorem call93 (p : List Int) (l : List PQ) (m : Memo) (hp : pcs p l) (hm : memoOk p m) : GCall Tryd.prog gl 93 false [.own 0 0, clo68] (obD 0 l p m) [.int .i64 (zIdxR p l)] (obD 0 l p (cms p (l.take (zIdx p l + 1)) m)) := by
 refine gcall_of (X := (Xm [e68] 4 (fun _ => none))) ((Xm_ok _ _ _)) (f := 93) (fn := Tryd.f93) (c := bodyOf Tryd.f93) (by kernel_rfl) (by kernel_rfl) (view := false) (rvs := [.tmp 4]) (by kernel_rfl) (H := (H93 p l m)) 80 (by kernel_rfl) ?_
 have hL := loop93 p l m hp hm
 refine of_eq (q := True ∧ True ∧ True ∧ True ∧ LoopOK (Xm [e68] (4 : Nat) fun (x : Nat) => none) L93_0 { J := chk (4 : Nat) [(0 : Nat), (1 : Nat), (7 : Nat), (8 : Nat)] (inv93 p l) (st93 p l m), exits := List.map (fun (x : List Nat × Ex) => x.snd) (ex93 p l m) } (RetR (Xm [e68] (4 : Nat) fun (x : Nat) => none) false false [ResultVar.tmp (4 : Tmp)] [AV.int .i64 (zIdxR p l)] (obD (0 : Nat) l p (cms p (List.take (zIdx p l + 1) l) m))) ∧ (∃ (y : Nat), inv93 p l y ∧ (True ∧ (True ∧ True ∧ True) ∧ (l.length : Int) = (l.length : Int) ∧ (0 : Int) = (y : Int) ∧ True) ∧ l = l ∧ True ∧ (p = p ∧ True ∧ True) ∧ m = cms p (List.take y l) m ∧ True) ∧ (∀ (y : Unit), (∀ (q : PQ), q ∈ l → cgz p q = false) → True ∧ True ∧ ((-1 : Int) = zIdxR p l ∧ True) ∧ l = l ∧ True ∧ (p = p ∧ True ∧ True) ∧ cms p l m = cms p (List.take (zIdx p l + 1) l) m ∧ True) ∧ True) (by kernel_rfl) ?_
 simp only [true_and, and_true, false_and, and_false, or_false, false_or, exists_const, exists_false, rat_num_den, rat_int, Int.toNat_natCast]
 refine ⟨hL, ⟨0, ⟨by omega, by simp⟩, rfl, rfl⟩, fun _ h => ⟨?_, ?_⟩⟩
 · unfold zIdxR; rw [if_neg]
   rintro ⟨q, h1, h2⟩
   rw [h q h1] at h2; cases h2
 · have : zIdx p l = l.length := find_none h
   rw [this, List.take_of_length_le (by omega)]
def get93 (xs : List AV) (obs : List Ob) : Option (List Int × List PQ × Memo) :=
 match unCvB (obs.getD 2 .gone), unPie (obs.getD 0 .gone), unMm (obs.getD 3 .gone) with
 | some p, some l, some m => some (p, l, m)
 | _, _, _ => none
theorem en93 : Enters Tryd.prog 93 := ⟨Tryd.f93, by kernel_rfl, by kernel_rfl, by kernel_rfl⟩
def e93 : Entry Tryd.prog gl := entryW 93 en93 true get93 (fun x => pcs x.1 x.2.1 ∧ memoOk x.1 x.2.2) false (fun _ => [.own 0 0, clo68]) (fun x => obD 0 x.2.1 x.1 x.2.2) (fun x => [.int .i64 (zIdxR x.1 x.2.1)]) (fun x => obD 0 x.2.1 x.1 (cms x.1 (x.2.1.take (zIdx x.1 x.2.1 + 1)) x.2.2)) (fun x h => call93 x.1 x.2.1 x.2.2 h.1 h.2)
def keep (p : List Int) (l : List PQ) : List PQ := l.filter fun q => !cgz p q
/-- What the list holds when its first j have been looked at. -/
def mid67 (p : List Int) (l : List PQ) (j : Nat) : List PQ := keep p (l.take j) ++ l.drop (keep p (l.take j)).length
def nz67 (p : List Int) (l : List PQ) : List PQ := keep p l ++ List.replicate (l.length - (keep p l).length) (0, 0)
theorem keep_le (p : List Int) (l : List PQ) (j : Nat) : (keep p (l.take j)).length ≤ j ∧ (keep p (l.take j)).length ≤ l.length := by
 have h1 : (keep p (l.take j)).length ≤ (l.take j).length := List.length_filter_le ..
 rw [List.length_take] at h1
 omega
theorem mid_length (p : List Int) (l : List PQ) (j : Nat) : (mid67 p l j).length = l.length := by
 have := keep_le p l j
 unfold mid67; rw [List.length_append, List.length_drop]; omega
theorem mid_getD (p : List Int) (l : List PQ) {j : Nat} : (mid67 p l j).getD j (0, 0) = l.getD j (0, 0) := by
 have := keep_le p l j
 unfold mid67
 simp only [List.getD_eq_getElem?_getD]
 rw [List.getElem?_append_right (by omega), List.getElem?_drop, show (keep p (l.take j)).length + (j - (keep p (l.take j)).length) = j by omega]
theorem keep_next (p : List Int) {l : List PQ} {j : Nat} (hj : j < l.length) : keep p (l.take (j + 1)) = if cgz p (l.getD j (0, 0)) then keep p (l.take j) else keep p (l.take j) ++ [l.getD j (0, 0)] := by
 rw [take_getD (d := (0, 0)) hj]
 unfold keep
 rw [List.filter_append]
 cases h : cgz p (l.getD j (0, 0)) with
 | true => rw [if_pos rfl, List.filter_cons]; simp only [h, Bool.not_true, Bool.false_eq_true, if_false, List.filter_nil, List.append_nil]
 | false => rw [if_neg (by simp), List.filter_cons]; simp only [h, Bool.not_false, if_true, List.filter_nil]
theorem mid_set (p : List Int) {l : List PQ} {j : Nat} (hj : j < l.length) (h : cgz p (l.getD j (0, 0)) = false) : (mid67 p l j).set (keep p (l.take j)).length (l.getD j (0, 0)) = mid67 p l (j + 1) := by
 have hle := keep_le p l j
 have hk := keep_next p hj
 rw [if_neg (by rw [h]; simp)] at hk
 unfold mid67
 rw [hk]
 rw [List.set_append_right _ _ (Nat.le_refl _), Nat.sub_self, List.length_append, List.append_assoc]
 congr 1
 have : l.drop (keep p (l.take j)).length = l.getD (keep p (l.take j)).length (0, 0) :: l.drop ((keep p (l.take j)).length + 1) := by
   rw [List.drop_eq_getElem_cons (by omega)]
   congr 1
   simp [List.getD_eq_getElem?_getD, show (keep p (l.take j)).length < l.length by omega]
 rw [this]
 rfl
theorem z_facts {p : List Int} {l : List PQ} (h : ∃ q ∈ l, cgz p q = true) : zIdx p l < l.length ∧ cgz p (l.getD (zIdx p l) (0, 0)) = true ∧ ∀ q ∈ l.take (zIdx p l), cgz p q = false := by
 have h1 : zIdx p l < l.length := List.findIdx_lt_length_of_exists h
 refine ⟨h1, ?_, fun q hq => ?_⟩
 · have := List.findIdx_getElem (w := h1)
   rw [List.getD_eq_getElem?_getD, List.getElem?_eq_getElem h1]
   exact this
 · obtain ⟨i, hi, rfl⟩ := List.getElem_of_mem hq
   rw [List.length_take] at hi
   rw [List.getElem_take]
   have hlt : i < l.findIdx (cgz p) := by
     have : i < zIdx p l := by omega
     exact this
   have := List.not_of_lt_findIdx hlt
   simpa using this
theorem keep_all (p : List Int) : ∀ {l : List PQ}, (∀ q ∈ l, cgz p q = false) → keep p l = l
 | [], _ => rfl
 | q :: l, h => by
   unfold keep
   rw [List.filter_cons, h q (by simp)]
   simp only [Bool.not_false, if_true]
   congr 1
   exact keep_all p fun q hq => h q (by simp [hq])
theorem call67a (p : List Int) (l : List PQ) (m : Memo) (hp : pcs p l) (hm : memoOk p m) (hz : ∀ q ∈ l, cgz p q = false) : GCall Tryd.prog gl 67 false [.own 0 0, clo68] (obD 0 l p m) [.own 0 0] (obD 0 l p (cms p l m)) := by
 refine gcall_of (X := (Xm [e93, e68] 4 (fun _ => none))) ((Xm_ok _ _ _)) (f := 67) (fn := Tryd.f67) (c := bodyOf Tryd.f67) (by kernel_rfl) (by kernel_rfl) (view := false) (rvs := [.tmp 4]) (by kernel_rfl) (H := fun _ => none) 80 (by kernel_rfl) ?_
 refine of_eq (q := True ∧ True ∧ True ∧ (((pcs p l ∧ memoOk p m) ∧ (True ∧ (True ∧ True ∧ True) ∧ True) ∧ l = l ∧ True ∧ (p = p ∧ True ∧ True) ∧ m = m ∧ True) ∧ l.length = l.length ∧ True ∧ True ∧ True ∧ True) ∧ True ∧ True ∧ True ∧ (zIdxR p l = (-1 : Int) → True ∧ True ∧ True ∧ (True ∧ True) ∧ l = l ∧ True ∧ (p = p ∧ True ∧ True) ∧ cms p (List.take (zIdx p l + 1) l) m = cms p l m ∧ True) ∧ (¬zIdxR p l = (-1 : Int) → True ∧ inR .i64 (zIdxR p l + 1) ∧ True ∧ False)) (by kernel_rfl) ?_
 simp only [true_and, and_true, false_and, and_false, or_false, false_or, exists_const, exists_false, rat_num_den, rat_int, Int.toNat_natCast]
 have h1 : zIdx p l = l.length := find_none hz
 refine ⟨⟨hp, hm⟩, fun _ => by rw [h1, List.take_of_length_le (by omega)], fun h => h ?_⟩
 unfold zIdxR; rw [if_neg]
 rintro ⟨q, h1, h2⟩
 rw [hz q h1] at h2; cases h2
noncomputable def L67_0 : Code := lp (bodyOf Tryd.f67) 0
def inv67 (p : List Int) (l : List PQ) (j : Nat) : Prop := zIdx p l + 1 ≤ j ∧ j ≤ l.length
def st67 (p : List Int) (l : List PQ) (m : Memo) (j : Nat) : St := ⟨.own 0 0 :: clo68 :: .dead :: .dead :: .dead :: .int .i64 (keep p (l.take j)).length :: .int .i64 j :: dd 35, obD 0 (mid67 p l j) p (cms p (l.take j) m)⟩
def ex67 (p : List Int) (l : List PQ) (m : Memo) : List (List Nat × Ex) := [([0, 1, 5], ⟨0, Unit, fun _ => True, fun _ => ⟨.own 0 0 :: clo68 :: .dead :: .dead :: .dead :: .int .i64 (keep p l).length :: dd 36, obD 0 (mid67 p l l.length) p (cms p l m)⟩⟩)]
noncomputable def H67 (p : List Int) (l : List PQ) (m : Memo) : Nat → Option Hint := fun _ => some ⟨chk 4 [0, 1, 5, 6] (inv67 p l) (st67 p l m), (ex67 p l m).map (·.2)⟩
theorem loop67 (p : List Int) (l : List PQ) (m : Memo) (hp : pcs p l) (hm : memoOk p m) (R : Exit → St → Prop) : LoopOK (Xm [e93, e68] 4 (fun _ => none)) L67_0 ⟨chk 4 [0, 1, 5, 6] (inv67 p l) (st67 p l m), (ex67 p l m).map (·.2)⟩ R := by
 refine loop_ok (Xm_ok _ _ _) (H := fun _ _ => none) [0, 1, 5, 6] (inv67 p l) (st67 p l m) (fun k => l.length - k) (ex67 p l m) 90 fun (j : Nat) hk => ?_
 refine of_eq (q := True ∧ True ∧ True ∧ True ∧ ((j : Int) < (↑(mid67 p l j).length : Int) → True ∧ True ∧ idxPre (j : Int) (mid67 p l j).length ∧ True ∧ True ∧ True ∧ True ∧ True ∧ ((pre69 (7 : Int) p (cms p (List.take j l) m) (((mid67 p l j).getD j (0, 0)).fst, ((mid67 p l j).getD j (0, 0)).snd) ∧ ((((mid67 p l j).getD j (0, 0)).fst = ((mid67 p l j).getD j (0, 0)).fst ∧ ((mid67 p l j).getD j (0, 0)).snd = ((mid67 p l j).getD j (0, 0)).snd ∧ True) ∧ True ∧ True) ∧ True ∧ (p = p ∧ True ∧ True) ∧ cms p (List.take j l) m = cms p (List.take j l) m ∧ True) ∧ True ∧ True ∧ True ∧ True) ∧ True ∧ ((!cgz p (((mid67 p l j).getD j (0, 0)).fst, ((mid67 p l j).getD j (0, 0)).snd)) = true → True ∧ True ∧ True ∧ idxPre (↑(keep p (List.take j l)).length : Int) (mid67 p l j).length ∧ True ∧ True ∧ inR .i64 ((↑(keep p (List.take j l)).length : Int) + 1) ∧ True ∧ True ∧ inR .i64 ((j : Int) + 1) ∧ True ∧ ∃ (y : Nat), (inv67 p l y ∧ l.length - y < l.length - j) ∧ (True ∧ (True ∧ True ∧ True) ∧ (↑(keep p (List.take j l)).length : Int) + 1 = (↑(keep p (List.take y l)).length : Int) ∧ (j : Int) + 1 = (y : Int) ∧ True) ∧ (mid67 p l j).set (keep p (List.take j l)).length (((mid67 p l j).getD j (0, 0)).fst, ((mid67 p l j).getD j (0, 0)).snd) = mid67 p l y ∧ True ∧ (p = p ∧ True ∧ True) ∧ cmq p (cms p (List.take j l) m) (((mid67 p l j).getD j (0, 0)).fst, ((mid67 p l j).getD j (0, 0)).snd) = cms p (List.take y l) m ∧ True) ∧ ((!cgz p (((mid67 p l j).getD j (0, 0)).fst, ((mid67 p l j).getD j (0, 0)).snd)) = false → True ∧ inR .i64 ((j : Int) + 1) ∧ True ∧ ∃ (y : Nat), (inv67 p l y ∧ l.length - y < l.length - j) ∧ (True ∧ (True ∧ True ∧ True) ∧ (↑(keep p (List.take j l)).length : Int) = (↑(keep p (List.take y l)).length : Int) ∧ (j : Int) + 1 = (y : Int) ∧ True) ∧ mid67 p l j = mid67 p l y ∧ True ∧ (p = p ∧ True ∧ True) ∧ cmq p (cms p (List.take j l) m) (((mid67 p l j).getD j (0, 0)).fst, ((mid67 p l j).getD j (0, 0)).snd) = cms p (List.take y l) m ∧ True)) ∧ (¬(j : Int) < (↑(mid67 p l j).length : Int) → ∃ (y : Unit), True ∧ (True ∧ (True ∧ True ∧ True) ∧ (↑(keep p (List.take j l)).length : Int) = (↑(keep p l).length : Int) ∧ True) ∧ mid67 p l j = mid67 p l l.length ∧ True ∧ (p = p ∧ True ∧ True) ∧ cms p (List.take j l) m = cms p l m ∧ True)) (by kernel_rfl) ?_
 simp only [true_and, and_true, false_and, and_false, or_false, false_or, exists_const, exists_false, rat_num_den, rat_int, Int.toNat_natCast]
 obtain ⟨h1, h2⟩ := hk
 have hle := keep_le p l j
 have hl := hp.2.1
 rw [mid_length, mid_getD]
 have e1 : ((l.getD j (0, 0)).1, (l.getD j (0, 0)).2) = l.getD j (0, 0) := rfl
 rw [e1]
 refine ⟨fun hj => ?_, fun hj => ?_⟩
 · have hj : j < l.length := by omega
   have hpc := hp.2.2 _ (getD_mem (d := (0, 0)) hj)
   have hn := keep_next p hj
   have hc : cmq p (cms p (l.take j) m) (l.getD j (0, 0)) = cms p (l.take (j + 1)) m := by rw [take_getD (d := (0, 0)) hj, cms_snoc]
   refine ⟨by unfold idxPre; omega, ⟨hp.1, hpc, by have := hpc.2.1; omega, cms_ok hm⟩, fun hx => ?_, fun hx => ?_⟩
   · have hx : cgz p (l.getD j (0, 0)) = false := by simpa using hx
     rw [if_neg (by rw [hx]; simp)] at hn
     refine ⟨by unfold idxPre; omega, by simp only [inR]; omega, by simp only [inR]; omega, j + 1, ⟨⟨by omega, by omega⟩, by omega⟩, ⟨by rw [hn]; simp, by omega⟩, mid_set p hj hx, hc⟩
   · have hx : cgz p (l.getD j (0, 0)) = true := by simpa using hx
     rw [if_pos hx] at hn
     refine ⟨by simp only [inR]; omega, j + 1, ⟨⟨by omega, by omega⟩, by omega⟩, ⟨by rw [hn], by omega⟩, by unfold mid67; rw [hn], hc⟩
 · have e : j = l.length := by omega
   subst e
   rw [List.take_length]
   exact ⟨rfl, rfl, rfl⟩
theorem call67b (p : List Int) (l : List PQ) (m : Memo) (hp : pcs p l) (hm : memoOk p m) (hz : ∃ q ∈ l, cgz p q = true) : GCall Tryd.prog gl 67 false [.own 0 0, clo68] (obD 0 l p m) [.sub 0 0 [] 0 (keep p l).length] (obD 0 (nz67 p l) p (cms p l m)) := by
 refine gcall_of (X := (Xm [e93, e68] 4 (fun _ => none))) ((Xm_ok _ _ _)) (f := 67) (fn := Tryd.f67) (c := bodyOf Tryd.f67) (by kernel_rfl) (by kernel_rfl) (view := false) (rvs := [.tmp 4]) (by kernel_rfl) (H := (H67 p l m)) 80 (by kernel_rfl) ?_
 have hL := loop67 p l m hp hm
 refine of_eq (q := True ∧ True ∧ True ∧ (((pcs p l ∧ memoOk p m) ∧ (True ∧ (True ∧ True ∧ True) ∧ True) ∧ l = l ∧ True ∧ (p = p ∧ True ∧ True) ∧ m = m ∧ True) ∧ l.length = l.length ∧ True ∧ True ∧ True ∧ True) ∧ True ∧ True ∧ True ∧ (zIdxR p l = (-1 : Int) → True ∧ True ∧ True ∧ (False ∧ True) ∧ l = nz67 p l ∧ True ∧ (p = p ∧ True ∧ True) ∧ cms p (List.take (zIdx p l + 1) l) m = cms p l m ∧ True) ∧ (¬zIdxR p l = (-1 : Int) → True ∧ inR .i64 (zIdxR p l + 1) ∧ True ∧ LoopOK (Xm [e93, e68] (4 : Nat) fun (x : Nat) => none) L67_0 { J := chk (4 : Nat) [(0 : Nat), (1 : Nat), (5 : Nat), (6 : Nat)] (inv67 p l) (st67 p l m), exits := List.map (fun (x : List Nat × Ex) => x.snd) (ex67 p l m) } (RetR (Xm [e93, e68] (4 : Nat) fun (x : Nat) => none) false false [ResultVar.tmp (4 : Tmp)] [AV.sub (0 : Nat) (0 : Nat) [] (0 : Nat) (keep p l).length] (obD (0 : Nat) (nz67 p l) p (cms p l m))) ∧ (∃ (y : Nat), inv67 p l y ∧ (True ∧ (True ∧ True ∧ True) ∧ zIdxR p l = (↑(keep p (List.take y l)).length : Int) ∧ zIdxR p l + 1 = (y : Int) ∧ True) ∧ l = mid67 p l y ∧ True ∧ (p = p ∧ True ∧ True) ∧ cms p (List.take (zIdx p l + 1) l) m = cms p (List.take y l) m ∧ True) ∧ (∀ (y : Unit), True → True ∧ True ∧ slPre (mid67 p l l.length).length (mid67 p l l.length).length (some (↑(keep p l).length : Int)) none none ∧ True ∧ True ∧ True ∧ slPre (List.take (bLo (some (↑(keep p l).length : Int))) (mid67 p l l.length) ++ (List.take (bHi (mid67 p l l.length).length none - bLo (some (↑(keep p l).length : Int))) (List.replicate (bHi (mid67 p l l.length).length none - bLo (some (↑(keep p l).length : Int))) ((Ty.int .i64).s2 (Ty.int .i64)).dflt) ++ List.drop (bLo (some (↑(keep p l).length : Int)) + (bHi (mid67 p l l.length).length none - bLo (some (↑(keep p l).length : Int)))) (mid67 p l l.length))).length (List.take (bLo (some (↑(keep p l).length : Int))) (mid67 p l l.length) ++ (List.take (bHi (mid67 p l l.length).length none - bLo (some (↑(keep p l).length : Int))) (List.replicate (bHi (mid67 p l l.length).length none - bLo (some (↑(keep p l).length : Int))) ((Ty.int .i64).s2 (Ty.int .i64)).dflt) ++ List.drop (bLo (some (↑(keep p l).length : Int)) + (bHi (mid67 p l l.length).length none - bLo (some (↑(keep p l).length : Int)))) (mid67 p l l.length))).length none (some (↑(keep p l).length : Int)) none ∧ True ∧ True ∧ ((bLo none = 0 ∧ bHi (List.take (bLo (some (↑(keep p l).length : Int))) (mid67 p l l.length) ++ (List.take (bHi (mid67 p l l.length).length none - bLo (some (↑(keep p l).length : Int))) (List.replicate (bHi (mid67 p l l.length).length none - bLo (some (↑(keep p l).length : Int))) ((Ty.int .i64).s2 (Ty.int .i64)).dflt) ++ List.drop (bLo (some (↑(keep p l).length : Int)) + (bHi (mid67 p l l.length).length none - bLo (some (↑(keep p l).length : Int)))) (mid67 p l l.length))).length (some (↑(keep p l).length : Int)) - bLo none = (keep p l).length) ∧ True) ∧ List.take (bLo (some (↑(keep p l).length : Int))) (mid67 p l l.length) ++ (List.take (bHi (mid67 p l l.length).length none - bLo (some (↑(keep p l).length : Int))) (List.replicate (bHi (mid67 p l l.length).length none - bLo (some (↑(keep p l).length : Int))) ((Ty.int .i64).s2 (Ty.int .i64)).dflt) ++ List.drop (bLo (some (↑(keep p l).length : Int)) + (bHi (mid67 p l l.length).length none - bLo (some (↑(keep p l).length : Int)))) (mid67 p l l.length)) = nz67 p l ∧ True ∧ (p = p ∧ True ∧ True) ∧ cms p l m = cms p l m ∧ True) ∧ True)) (by kernel_rfl) ?_
 simp only [true_and, and_true, false_and, and_false, or_false, false_or, exists_const, exists_false, rat_num_den, rat_int, Int.toNat_natCast]
 obtain ⟨z1, z2, z3⟩ := z_facts hz
 have hl := hp.2.1
 have hR : zIdxR p l = (zIdx p l : Int) := by unfold zIdxR; rw [if_pos hz]
 have hk0 : keep p (l.take (zIdx p l + 1)) = l.take (zIdx p l) := by
   rw [keep_next p z1, if_pos z2, keep_all p z3]
 have hkl : (keep p l).length ≤ l.length := List.length_filter_le ..
 have hml := mid_length p l l.length
 rw [hR]
 refine ⟨⟨hp, hm⟩, fun h => by omega, fun _ => ⟨by simp only [inR]; omega, hL _, ⟨zIdx p l + 1, ⟨Nat.le_refl _, z1⟩, ⟨by rw [hk0, List.length_take]; omega, by omega⟩, ?_, rfl⟩, fun _ => ?_⟩⟩
 · unfold mid67
   rw [hk0, List.length_take, show min (zIdx p l) l.length = zIdx p l by omega, List.take_append_drop]
 · rw [hml]
   have e0 : bLo (some ((keep p l).length : Int)) = (keep p l).length := by simp [bLo]
   have e1 : bHi l.length none = l.length := rfl
   have e2 : bHi l.length (some ((keep p l).length : Int)) = (keep p l).length := by simp [bHi]
   have e3 : bLo none = 0 := rfl
   rw [e0, e1]
   have e4 : mid67 p l l.length = keep p l ++ l.drop (keep p l).length := by unfold mid67; rw [List.take_length]
   have e5 : List.take (keep p l).length (mid67 p l l.length) ++ (List.take (l.length - (keep p l).length) (List.replicate (l.length - (keep p l).length) ((Ty.int IntKind.i64).s2 (Ty.int IntKind.i64)).dflt) ++ List.drop ((keep p l).length + (l.length - (keep p l).length)) (mid67 p l l.length)) = nz67 p l := by
     rw [e4, List.take_left, List.take_of_length_le (by simp), List.drop_eq_nil_of_le (by simp)]
     simp [nz67, Ty.dflt]
   rw [e5]
   have e6 : (nz67 p l).length = l.length := by unfold nz67; simp; omega
   rw [e6, e2, e3]
   exact fun _ => ⟨by simp only [slPre]; simp [bLo, bHi]; omega, by simp only [slPre]; simp [bLo, bHi]; omega, by omega, rfl⟩
end Go.Am.Bern

/- Bern: Roots, Count. -/
namespace Go.Am.Bern
open Go Go.Am Go.Proofs
theorem grL_piece (gd : List PQ → Bool) (p : List Int) : ∀ (n d k : Nat), d + n = 6 → k < 2 ^ d → ∀ q ∈ grL gd p n d k, isPiece q := by
 have one : ∀ d k : Nat, d ≤ 6 → k < 2 ^ d → isPiece ((d : Int), (k : Int)) := fun d k hd hk => by
   unfold isPiece
   have e : ((2 ^ d : Nat) : Int) = 2 ^ d := by rw [Int.natCast_pow]; try rfl
   simp only [Int.toNat_natCast]
   rw [← e]
   omega
 intro n
 induction n with
 | zero =>
   intro d k hd hk q hq
   unfold grL at hq
   split at hq
   · simp at hq; subst hq; exact one d k (by omega) hk
   · simp at hq
 | succ n ih =>
   intro d k hd hk q hq
   rw [grL_succ] at hq
   have hp : 2 ^ (d + 1) = 2 * 2 ^ d := by rw [Nat.pow_succ]; omega
   split at hq
   · simp at hq; subst hq; exact one d k (by omega) hk
   · unfold hvL at hq
     split at hq
     · rcases List.mem_append.mp hq with hq | hq
       · exact ih (d + 1) (2 * k) (by omega) (by omega) q hq
       · exact ih (d + 1) (2 * k + 1) (by omega) (by omega) q hq
     · exact ih (d + 1) (2 * k) (by omega) (by omega) q hq
theorem en67 : Enters Tryd.prog 67 := ⟨Tryd.f67, by kernel_rfl, by kernel_rfl, by kernel_rfl⟩
def e67a : Entry Tryd.prog gl := entryW 67 en67 true get93 (fun x => pcs x.1 x.2.1 ∧ memoOk x.1 x.2.2 ∧ ∀ q ∈ x.2.1, cgz x.1 q = false) false (fun _ => [.own 0 0, clo68]) (fun x => obD 0 x.2.1 x.1 x.2.2) (fun _ => [.own 0 0]) (fun x => obD 0 x.2.1 x.1 (cms x.1 x.2.1 x.2.2)) (fun x h => call67a x.1 x.2.1 x.2.2 h.1 h.2.1 h.2.2)
def e67b : Entry Tryd.prog gl := entryW 67 en67 true get93 (fun x => pcs x.1 x.2.1 ∧ memoOk x.1 x.2.2 ∧ ∃ q ∈ x.2.1, cgz x.1 q = true) false (fun _ => [.own 0 0, clo68]) (fun x => obD 0 x.2.1 x.1 x.2.2) (fun x => [.sub 0 0 [] 0 (keep x.1 x.2.1).length]) (fun x => obD 0 (nz67 x.1 x.2.1) x.1 (cms x.1 x.2.1 x.2.2)) (fun x h => call67b x.1 x.2.1 x.2.2 h.1 h.2.1 h.2.2)
def rootsB (p : List Int) : Prop := isPoly p ∧ plainP p ∧ P64.coverB p = true
instance (p : List Int) : Decidable (rootsB p) := inferInstanceAs (Decidable (_ ∧ _))
def rootsP (p : List Int) : List PQ := if rootsB p then keep p (P64.coverL p) else []
def rootsE (p : List Int) : Int := if isPoly p then (if plainP p then (if P64.coverB p = true then 0 else 8) else 4) else 80
theorem cover_pcs {p : List Int} (hp : isPoly p) : pcs p (P64.coverL p) := by
 have hlen : (P64.coverL p).length ≤ 64 := grL_len _ p 6 0 0
 exact ⟨hp, by omega, grL_piece _ p 6 0 0 (by omega) (by omega)⟩
theorem call20 (p : List Int) (h : p.length < 1000000) : GCall Tryd.prog gl 20 false [.sl I64 p] [] [.sl Q2 (rootsP p), .int .i64 (rootsE p)] [] := by
 have hlen : (P64.coverL p).length ≤ 64 := grL_len _ p 6 0 0
 have r1 : ¬ isPoly p → rootsP p = [] ∧ rootsE p = errOf p := fun h => by simp [rootsP, rootsB, rootsE, errOf, h]
 have r2 : ¬ plainP p → isPoly p → rootsP p = [] ∧ rootsE p = 4 := fun h hp => by simp [rootsP, rootsB, rootsE, hp, h]
 by_cases hb : P64.coverB p = true
 · have r3 : isPoly p → plainP p → rootsP p = keep p (P64.coverL p) ∧ rootsE p = 0 := fun hp h => by simp [rootsP, rootsB, rootsE, hp, h, hb]
   by_cases hz : ∃ q ∈ P64.coverL p, cgz p q = true
   · refine gcall_of (X := (X [e56, e61, e62, e66, e63o, e67b])) ((X_ok _)) (f := 20) (fn := Tryd.f20) (c := bodyOf Tryd.f20) (by kernel_rfl) (by kernel_rfl) (view := true) (rvs := [.tmp 2, .tmp 3]) (by kernel_rfl) (H := fun _ => none) 80 (by kernel_rfl) ?_
     refine of_eq (q := True ∧ True ∧ True ∧ (p.length + 1 ≤ 1000000 ∧ True) ∧ True ∧ True ∧ True ∧ (¬errOf p = 0 → True ∧ True ∧ True ∧ True ∧ (([] : List (Int × Int)) = rootsP p ∧ errOf p = rootsE p ∧ True) ∧ True) ∧ (¬¬errOf p = 0 → True ∧ (((1 : Nat) ≤ p.length ∧ p.length ≤ 7 ∧ coefs p) ∧ True) ∧ True ∧ ((!decide (plainP p)) = true → True ∧ True ∧ True ∧ (([] : List (Int × Int)) = rootsP p ∧ (4 : Int) = rootsE p ∧ True) ∧ True) ∧ ((!decide (plainP p)) = false → True ∧ (True ∧ True) ∧ True ∧ True ∧ True ∧ True ∧ (((isPoly p ∧ memoOk p [] ∧ P64.coverB p = true) ∧ (True ∧ ((0 : Int) = 0 ∧ (0 : Int) = 0 ∧ True) ∧ (True ∧ True) ∧ True) ∧ (p = p ∧ True ∧ True) ∧ ([] : List ((Int × Int) × List (Int × Int))) = [] ∧ True) ∧ True ∧ True ∧ True) ∧ True ∧ True ∧ True ∧ True ∧ True ∧ (((pcs p (P64.coverL p) ∧ memoOk p (P64.coverM p []) ∧ ∃ (q : PQ), q ∈ P64.coverL p ∧ cgz p q = true) ∧ (True ∧ (True ∧ True ∧ True) ∧ True) ∧ P64.coverL p = P64.coverL p ∧ True ∧ (p = p ∧ True ∧ True) ∧ P64.coverM p [] = P64.coverM p [] ∧ True) ∧ (nz67 p (P64.coverL p)).length = (P64.coverL p).length ∧ True ∧ True ∧ True ∧ True) ∧ ((List.take (keep p (P64.coverL p)).length (List.drop (0 : Nat) (nz67 p (P64.coverL p)))).length + 1 ≤ 1000000 ∧ True) ∧ True ∧ True ∧ True ∧ (List.take (keep p (P64.coverL p)).length (List.drop (0 : Nat) (nz67 p (P64.coverL p))) = rootsP p ∧ (0 : Int) = rootsE p ∧ True) ∧ True))) (by kernel_rfl) ?_
     simp only [true_and, and_true, false_and, and_false, or_false, false_or, exists_const, exists_false, rat_num_den, rat_int, Int.toNat_natCast]
     refine ⟨by omega, fun he => ?_, fun he => ?_⟩
     · obtain ⟨e1, e2⟩ := r1 (errOf_pos he)
       exact ⟨e1.symm, e2.symm⟩
     · have hp := errOf_zero he
       refine ⟨hp, fun hx => ?_, fun hx => ?_⟩
       · have hx : ¬ plainP p := by simpa using hx
         obtain ⟨e1, e2⟩ := r2 hx hp
         exact ⟨e1.symm, e2.symm⟩
       · have hx : plainP p := by simpa using hx
         obtain ⟨e1, e2⟩ := r3 hp hx
         have hnz : (nz67 p (P64.coverL p)).length = (P64.coverL p).length := by
           have : (keep p (P64.coverL p)).length ≤ (P64.coverL p).length := List.length_filter_le ..
           unfold nz67; simp; omega
         have htk : List.take (keep p (P64.coverL p)).length (List.drop 0 (nz67 p (P64.coverL p))) = keep p (P64.coverL p) := by
           unfold nz67; rw [List.drop_zero, List.take_left]
         have hkl : (keep p (P64.coverL p)).length ≤ (P64.coverL p).length := List.length_filter_le ..
         rw [htk]
         exact ⟨⟨hp, memoOk_nil p, hb⟩, ⟨⟨cover_pcs hp, grM_ok _ p (memoOk_nil p), hz⟩, hnz⟩, by omega, e1.symm, e2.symm⟩
   · refine gcall_of (X := (X [e56, e61, e62, e66, e63o, e67a])) ((X_ok _)) (f := 20) (fn := Tryd.f20) (c := bodyOf Tryd.f20) (by kernel_rfl) (by kernel_rfl) (view := true) (rvs := [.tmp 2, .tmp 3]) (by kernel_rfl) (H := fun _ => none) 80 (by kernel_rfl) ?_
     refine of_eq (q := True ∧ True ∧ True ∧ (p.length + 1 ≤ 1000000 ∧ True) ∧ True ∧ True ∧ True ∧ (¬errOf p = 0 → True ∧ True ∧ True ∧ True ∧ (([] : List (Int × Int)) = rootsP p ∧ errOf p = rootsE p ∧ True) ∧ True) ∧ (¬¬errOf p = 0 → True ∧ (((1 : Nat) ≤ p.length ∧ p.length ≤ 7 ∧ coefs p) ∧ True) ∧ True ∧ ((!decide (plainP p)) = true → True ∧ True ∧ True ∧ (([] : List (Int × Int)) = rootsP p ∧ (4 : Int) = rootsE p ∧ True) ∧ True) ∧ ((!decide (plainP p)) = false → True ∧ (True ∧ True) ∧ True ∧ True ∧ True ∧ True ∧ (((isPoly p ∧ memoOk p [] ∧ P64.coverB p = true) ∧ (True ∧ ((0 : Int) = 0 ∧ (0 : Int) = 0 ∧ True) ∧ (True ∧ True) ∧ True) ∧ (p = p ∧ True ∧ True) ∧ ([] : List ((Int × Int) × List (Int × Int))) = [] ∧ True) ∧ True ∧ True ∧ True) ∧ True ∧ True ∧ True ∧ True ∧ True ∧ (((pcs p (P64.coverL p) ∧ memoOk p (P64.coverM p []) ∧ ∀ (q : PQ), q ∈ P64.coverL p → cgz p q = false) ∧ (True ∧ (True ∧ True ∧ True) ∧ True) ∧ P64.coverL p = P64.coverL p ∧ True ∧ (p = p ∧ True ∧ True) ∧ P64.coverM p [] = P64.coverM p [] ∧ True) ∧ (P64.coverL p).length = (P64.coverL p).length ∧ True ∧ True ∧ True ∧ True) ∧ ((P64.coverL p).length + 1 ≤ 1000000 ∧ True) ∧ True ∧ True ∧ True ∧ (P64.coverL p = rootsP p ∧ (0 : Int) = rootsE p ∧ True) ∧ True))) (by kernel_rfl) ?_
     simp only [true_and, and_true, false_and, and_false, or_false, false_or, exists_const, exists_false, rat_num_den, rat_int, Int.toNat_natCast]
     have hz' : ∀ q ∈ P64.coverL p, cgz p q = false := fun q hq => by
       cases h : cgz p q with
       | false => rfl
       | true => exact absurd ⟨q, hq, h⟩ hz
     refine ⟨by omega, fun he => ?_, fun he => ?_⟩
     · obtain ⟨e1, e2⟩ := r1 (errOf_pos he)
       exact ⟨e1.symm, e2.symm⟩
     · have hp := errOf_zero he
       refine ⟨hp, fun hx => ?_, fun hx => ?_⟩
       · have hx : ¬ plainP p := by simpa using hx
         obtain ⟨e1, e2⟩ := r2 hx hp
         exact ⟨e1.symm, e2.symm⟩
       · have hx : plainP p := by simpa using hx
         obtain ⟨e1, e2⟩ := r3 hp hx
         rw [keep_all p hz'] at e1
         exact ⟨⟨hp, memoOk_nil p, hb⟩, ⟨cover_pcs hp, grM_ok _ p (memoOk_nil p), hz'⟩, by omega, e1.symm, e2.symm⟩
 · have hb : P64.coverB p = false := by simpa using hb
   refine gcall_of (X := (X [e56, e61, e62, e66, e63n])) ((X_ok _)) (f := 20) (fn := Tryd.f20) (c := bodyOf Tryd.f20) (by kernel_rfl) (by kernel_rfl) (view := true) (rvs := [.tmp 2, .tmp 3]) (by kernel_rfl) (H := fun _ => none) 80 (by kernel_rfl) ?_
   refine of_eq (q := True ∧ True ∧ True ∧ (p.length + 1 ≤ 1000000 ∧ True) ∧ True ∧ True ∧ True ∧ (¬errOf p = 0 → True ∧ True ∧ True ∧ True ∧ (([] : List (Int × Int)) = rootsP p ∧ errOf p = rootsE p ∧ True) ∧ True) ∧ (¬¬errOf p = 0 → True ∧ (((1 : Nat) ≤ p.length ∧ p.length ≤ 7 ∧ coefs p) ∧ True) ∧ True ∧ ((!decide (plainP p)) = true → True ∧ True ∧ True ∧ (([] : List (Int × Int)) = rootsP p ∧ (4 : Int) = rootsE p ∧ True) ∧ True) ∧ ((!decide (plainP p)) = false → True ∧ (True ∧ True) ∧ True ∧ True ∧ True ∧ True ∧ (((isPoly p ∧ memoOk p [] ∧ P64.coverB p = false) ∧ (True ∧ ((0 : Int) = 0 ∧ (0 : Int) = 0 ∧ True) ∧ (True ∧ True) ∧ True) ∧ (p = p ∧ True ∧ True) ∧ ([] : List ((Int × Int) × List (Int × Int))) = [] ∧ True) ∧ True ∧ True ∧ True) ∧ True ∧ True ∧ True ∧ True ∧ True ∧ True ∧ (([] : List (Int × Int)) = rootsP p ∧ (8 : Int) = rootsE p ∧ True) ∧ True))) (by kernel_rfl) ?_
   simp only [true_and, and_true, false_and, and_false, or_false, false_or, exists_const, exists_false, rat_num_den, rat_int, Int.toNat_natCast]
   refine ⟨by omega, fun he => ?_, fun he => ?_⟩
   · obtain ⟨e1, e2⟩ := r1 (errOf_pos he)
     exact ⟨e1.symm, e2.symm⟩
   · have hp := errOf_zero he
     refine ⟨hp, fun hx => ?_, fun hx => ?_⟩
     · have hx : ¬ plainP p := by simpa using hx
       obtain ⟨e1, e2⟩ := r2 hx hp
       exact ⟨e1.symm, e2.symm⟩
     · have hx : plainP p := by simpa using hx
       exact ⟨⟨hp, memoOk_nil p, hb⟩, by simp [rootsP, rootsB, hb], by simp [rootsE, hp, hx, hb]⟩
def e20 : Entry Tryd.prog gl := entry1 20 ⟨Tryd.f20, by kernel_rfl, by kernel_rfl, by kernel_rfl⟩ SI (fun p => p.length < 1000000) false (fun p => [.sl Q2 (rootsP p), .int .i64 (rootsE p)]) (fun _ => []) (call20)
theorem call21 (p : List Int) (h : p.length < 1000000) : GCall Tryd.prog gl 21 false [.sl I64 p] [] [.int .i64 (rootsP p).length, .int .i64 (rootsE p)] [] := by
 refine gcall_of (X := X [e20]) (X_ok [e20]) (f := 21) (fn := Tryd.f21) (c := bodyOf Tryd.f21) (by kernel_rfl) (by kernel_rfl) (view := false) (rvs := [.tmp 2, .tmp 3]) (by kernel_rfl) (H := fun _ => none) 80 (by kernel_rfl) ?_
 refine of_eq (q := True ∧ True ∧ True ∧ (p.length + 1 ≤ 1000000 ∧ True) ∧ True ∧ True ∧ True ∧ True ∧ True ∧ True ∧ True ∧ True ∧ True ∧ True ∧ True ∧ ((↑(rootsP p).length : Int) = (↑(rootsP p).length : Int) ∧ rootsE p = rootsE p ∧ True) ∧ True) (by kernel_rfl) ?_
 simp only [true_and, and_true, false_and, and_false, or_false, false_or, exists_const, exists_false, rat_num_den, rat_int, Int.toNat_natCast]
 omega
def e21 : Entry Tryd.prog gl := entry1 21 ⟨Tryd.f21, by kernel_rfl, by kernel_rfl, by kernel_rfl⟩ SI (fun p => p.length < 1000000) false (fun p => [.int .i64 (rootsP p).length, .int .i64 (rootsE p)]) (fun _ => []) (call21)
end Go.Am.Bern

/- Bern: readings of the reference. -/
namespace Go.Am.Bern
open Go Go.Am Go.Proofs
def cgs (p : List Int) (d k : Nat) : Nat := chg (qc p d k)
section
variable (p : List Int)
/-- Is there a reading of a piece, n levels being left? -/
def rdB : Nat → Nat → Nat → Bool
 | 0, d, k => decide (cgs p d k = 0) || decide (cgs p d k = 1)
 | n + 1, d, k => decide (cgs p d k = 0) || (decide (cgs p d k = 1) || (rdB n (d + 1) (2 * k) && rdB n (d + 1) (2 * k + 1)))
/-- The pieces that it returns. -/
def rdL : Nat → Nat → Nat → List PQ
 | 0, d, k => if cgs p d k = 0 then [] else if cgs p d k = 1 then [((d : Int), (k : Int))] else []
 | n + 1, d, k => if cgs p d k = 0 then [] else if cgs p d k = 1 then [((d : Int), (k : Int))] else
     if rdB p n (d + 1) (2 * k) then rdL n (d + 1) (2 * k) ++ rdL n (d + 1) (2 * k + 1) else []
theorem rdL_len : ∀ (n d k : Nat), (rdL p n d k).length ≤ 2 ^ n
 | 0, d, k => by
   unfold rdL
   split
   · simp
   · split <;> simp
 | n + 1, d, k => by
   have h1 := rdL_len n (d + 1) (2 * k)
   have h2 := rdL_len n (d + 1) (2 * k + 1)
   have : 0 < 2 ^ n := Nat.two_pow_pos n
   have e : 2 ^ (n + 1) = 2 ^ n + 2 ^ n := by rw [Nat.pow_succ]; omega
   unfold rdL
   split
   · simp
   · split
     · simp only [List.length_cons, List.length_nil]; omega
     · split
       · rw [List.length_append]; omega
       · simp
end
def pre70 (n d k : Nat) (p : List Int) : Prop := isPoly p ∧ d + n = 6 ∧ k < 2 ^ d
def a70 (p : List Int) (q : PQ) : List AV := [.sl I64 p, ofD Q2 q]
def KV (n : Nat) : Prop := ∀ (d k : Nat) (p : List Int), pre70 n d k p → GCall Tryd.prog gl 70 false (a70 p ((d : Int), (k : Int))) [] [.sl Q2 (rdL p n d k), .bool (rdB p n d k)] []
def KO (n : Nat) : Prop := ∀ (d k : Nat) (p : List Int), pre70 n d k p → rdL p n d k ≠ [] → GCall Tryd.prog gl 70 false (a70 p ((d : Int), (k : Int))) [] [.own 0 0, .bool (rdB p n d k)] [.sc 0 23 Q2 (rdL p n d k)]
def KN (n : Nat) : Prop := ∀ (d k : Nat) (p : List Int), pre70 n d k p → rdL p n d k = [] → GCall Tryd.prog gl 70 false (a70 p ((d : Int), (k : Int))) [] [nl, .bool (rdB p n d k)] []
def get70 (xs : List AV) (obs : List Ob) : Option (List Int × PQ) :=
 match xs, obs with
 | [x, y], [] => (match toD SI x, toD Q2 y with
   | some p, some q => some (p, q)
   | _, _ => none)
 | _, _ => none
theorem en70 : Enters Tryd.prog 70 := ⟨Tryd.f70, by kernel_rfl, by kernel_rfl, by kernel_rfl⟩
def e70V (n : Nat) (h : KV n) : Entry Tryd.prog gl := entryW 70 en70 false get70 (fun x => ∃ d k : Nat, x.2 = ((d : Int), (k : Int)) ∧ pre70 n d k x.1) false (fun x => a70 x.1 x.2) (fun _ => []) (fun x => [.sl Q2 (rdL x.1 n x.2.1.toNat x.2.2.toNat), .bool (rdB x.1 n x.2.1.toNat x.2.2.toNat)]) (fun _ => []) (by
 rintro ⟨p, q⟩ ⟨d, k, hq, h1⟩
 simp only at hq; subst hq
 exact h d k p h1)
def e70N (n : Nat) (h : KN n) : Entry Tryd.prog gl := entryW 70 en70 false get70 (fun x => ∃ d k : Nat, x.2 = ((d : Int), (k : Int)) ∧ pre70 n d k x.1 ∧ rdL x.1 n d k = []) false (fun x => a70 x.1 x.2) (fun _ => []) (fun x => [nl, .bool (rdB x.1 n x.2.1.toNat x.2.2.toNat)]) (fun _ => []) (by
 rintro ⟨p, q⟩ ⟨d, k, hq, h1, h2⟩
 simp only at hq; subst hq
 exact h d k p h1 h2)
def e70O (n : Nat) (h : KO n) (l : List PQ) : Entry Tryd.prog gl := entryW 70 en70 false get70 (fun x => ∃ d k : Nat, x.2 = ((d : Int), (k : Int)) ∧ pre70 n d k x.1 ∧ rdL x.1 n d k = l ∧ l ≠ []) false (fun x => a70 x.1 x.2) (fun _ => []) (fun x => [.own 0 0, .bool (rdB x.1 n x.2.1.toNat x.2.2.toNat)]) (fun _ => [.sc 0 23 Q2 l]) (by
 rintro ⟨p, q⟩ ⟨d, k, hq, h1, h2, h3⟩
 simp only at hq h2 h3; subst hq; subst h2
 exact h d k p h1 h3)
noncomputable def XD (l : EL) (d : List (Nat × EL)) : Cy := mkD Tryd.prog tt gl l d 0 (fun _ => none)
theorem XD_ok (l : EL) (d : List (Nat × EL)) : (XD l d).Ok := mkD_ok tt_ok l d 0 _
theorem piece70 {n d k : Nat} {p : List Int} (h : pre70 n d k p) : isPiece ((d : Int), (k : Int)) := piece_of (n := n) (m := []) ⟨h.1, h.2.1, h.2.2, memoOk_nil p⟩
theorem kV0 : KV 0 := by
 intro d k p hp
 refine gcall_of (X := (XD [e16, e33] [])) ((XD_ok _ _)) (f := 70) (fn := Tryd.f70) (c := bodyOf Tryd.f70) (by kernel_rfl) (by kernel_rfl) (view := true) (rvs := [.tmp 4, .tmp 5]) (by kernel_rfl) (H := fun _ => none) 200 (by kernel_rfl) ?_
 refine of_eq (q := True ∧ True ∧ True ∧ True ∧ True ∧ ((isPoly p ∧ isPiece ((d : Int), (k : Int))) ∧ True) ∧ ((qs (cnr p (d : Int).toNat (k : Int).toNat)).length + 1 ≤ 1000000 ∧ True) ∧ True ∧ True ∧ True ∧ True ∧ ((↑(chg (qs (cnr p (d : Int).toNat (k : Int).toNat))) : Int) = 0 → True ∧ True ∧ True ∧ ([] = rdL p (0 : Nat) d k ∧ true = rdB p (0 : Nat) d k ∧ True) ∧ True) ∧ (¬(↑(chg (qs (cnr p (d : Int).toNat (k : Int).toNat))) : Int) = 0 → True ∧ True ∧ True ∧ ((↑(chg (qs (cnr p (d : Int).toNat (k : Int).toNat))) : Int) = 1 → True ∧ True ∧ True ∧ True ∧ True ∧ ([((d : Int), (k : Int))] = rdL p (0 : Nat) d k ∧ true = rdB p (0 : Nat) d k ∧ True) ∧ True) ∧ (¬(↑(chg (qs (cnr p (d : Int).toNat (k : Int).toNat))) : Int) = 1 → idxPre (0 : Int) (2 : Nat) ∧ True ∧ True ∧ True ∧ ((d : Int) = 6 → True ∧ True ∧ True ∧ ([] = rdL p (0 : Nat) d k ∧ false = rdB p (0 : Nat) d k ∧ True) ∧ True) ∧ (¬(d : Int) = 6 → True ∧ idxPre (0 : Int) (2 : Nat) ∧ True ∧ inR .i64 ((d : Int) + 1) ∧ idxPre (1 : Int) (2 : Nat) ∧ True ∧ inR .i64 ((2 : Int) * (k : Int)) ∧ True ∧ False)))) (by kernel_rfl) ?_
 simp only [true_and, and_true, false_and, and_false, or_false, false_or, exists_const, exists_false, rat_num_den, rat_int, Int.toNat_natCast]
 have hq : qs (cnr p d k) = qc p d k := rfl
 rw [hq]
 have hpc := piece70 hp
 have hln := qc_length p d k
 have hpl := hp.1.2.1
 have h6 := hp.2.1
 refine ⟨⟨hp.1, hpc⟩, by omega, fun h0 => ?_, fun h0 => ⟨fun h1 => ?_, fun h1 => ⟨i02, fun _ => ?_, fun h => by omega⟩⟩⟩
 · have h0 : cgs p d k = 0 := by unfold cgs; omega
   simp [rdL, rdB, h0]
 · have h1 : cgs p d k = 1 := by unfold cgs; omega
   simp [rdL, rdB, h1]
 · have h0 : cgs p d k ≠ 0 := by unfold cgs; omega
   have h1 : cgs p d k ≠ 1 := by unfold cgs; omega
   simp [rdL, rdB, h0, h1]
theorem left70 {n d k : Nat} {p : List Int} (h : pre70 (n + 1) d k p) : pre70 n (d + 1) (2 * k) p := by
 have := pre_left (m := []) ⟨h.1, h.2.1, h.2.2, memoOk_nil p⟩
 exact ⟨this.1, this.2.1, this.2.2.1⟩
theorem right70 {n d k : Nat} {p : List Int} (h : pre70 (n + 1) d k p) : pre70 n (d + 1) (2 * k + 1) p := by
 have := pre_right (m := []) ⟨h.1, h.2.1, h.2.2, memoOk_nil p⟩
 exact ⟨this.1, this.2.1, this.2.2.1⟩
theorem kV1 (n : Nat) (hV : KV n) (hO : KO n) (hN : KN n) : KV (n + 1) := by
 intro d k p hp
 have hpc := piece70 hp
 have hln := qc_length p d k
 have hpl := hp.1.2.1
 have h6 := hp.2.1
 have hb := pre_lt (m := []) ⟨hp.1, hp.2.1, hp.2.2, memoOk_nil p⟩
 have L1 := rdL_len p n (d + 1) (2 * k)
 have L2 := rdL_len p n (d + 1) (2 * k + 1)
 have L0 := Nat.pow_le_pow_right (show 0 < 2 by omega) (show n ≤ 6 by omega)
 have e1 : ((d : Int) + 1).toNat = d + 1 := by omega
 have e2 : (2 * (k : Int)).toNat = 2 * k := by omega
 have e3 : (2 * (k : Int) + 1).toNat = 2 * k + 1 := by omega
 have l70 := left70 hp
 have r70 := right70 hp
 have hq : qs (cnr p d k) = qc p d k := rfl
 have c0 : (chg (qc p d k) : Int) = 0 → cgs p d k = 0 := fun h => by unfold cgs; omega
 have c0' : ¬ (chg (qc p d k) : Int) = 0 → cgs p d k ≠ 0 := fun h => by unfold cgs; omega
 have c1 : (chg (qc p d k) : Int) = 1 → cgs p d k = 1 := fun h => by unfold cgs; omega
 have c1' : ¬ (chg (qc p d k) : Int) = 1 → cgs p d k ≠ 1 := fun h => by unfold cgs; omega
 by_cases hl : rdL p n (d + 1) (2 * k) = []
 · refine gcall_of (X := (XD [e16, e33] [(36, [e70N n hN]), (51, [e70V n hV])])) ((XD_ok _ _)) (f := 70) (fn := Tryd.f70) (c := bodyOf Tryd.f70) (by kernel_rfl) (by kernel_rfl) (view := true) (rvs := [.tmp 4, .tmp 5]) (by kernel_rfl) (H := fun _ => none) 200 (by kernel_rfl) ?_
   refine of_eq (q := True ∧ True ∧ True ∧ True ∧ True ∧ ((isPoly p ∧ isPiece ((d : Int), (k : Int))) ∧ True) ∧ ((qs (cnr p (d : Int).toNat (k : Int).toNat)).length + 1 ≤ 1000000 ∧ True) ∧ True ∧ True ∧ True ∧ True ∧ ((↑(chg (qs (cnr p (d : Int).toNat (k : Int).toNat))) : Int) = 0 → True ∧ True ∧ True ∧ ([] = rdL p (n + 1) d k ∧ true = rdB p (n + 1) d k ∧ True) ∧ True) ∧ (¬(↑(chg (qs (cnr p (d : Int).toNat (k : Int).toNat))) : Int) = 0 → True ∧ True ∧ True ∧ ((↑(chg (qs (cnr p (d : Int).toNat (k : Int).toNat))) : Int) = 1 → True ∧ True ∧ True ∧ True ∧ True ∧ ([((d : Int), (k : Int))] = rdL p (n + 1) d k ∧ true = rdB p (n + 1) d k ∧ True) ∧ True) ∧ (¬(↑(chg (qs (cnr p (d : Int).toNat (k : Int).toNat))) : Int) = 1 → idxPre (0 : Int) (2 : Nat) ∧ True ∧ True ∧ True ∧ ((d : Int) = 6 → True ∧ True ∧ True ∧ ([] = rdL p (n + 1) d k ∧ false = rdB p (n + 1) d k ∧ True) ∧ True) ∧ (¬(d : Int) = 6 → True ∧ idxPre (0 : Int) (2 : Nat) ∧ True ∧ inR .i64 ((d : Int) + 1) ∧ idxPre (1 : Int) (2 : Nat) ∧ True ∧ inR .i64 ((2 : Int) * (k : Int)) ∧ True ∧ (((∃ (d_1 : Nat), ∃ (k_1 : Nat), ((d : Int) + 1, (2 : Int) * (k : Int)) = ((d_1 : Int), (k_1 : Int)) ∧ pre70 n d_1 k_1 p ∧ rdL p n d_1 k_1 = []) ∧ (p = p ∧ [(d : Int) + 1, (2 : Int) * (k : Int)] = [(d : Int) + 1, (2 : Int) * (k : Int)] ∧ True) ∧ True) ∧ True) ∧ True ∧ True ∧ True ∧ True ∧ True ∧ True ∧ True ∧ ((!rdB p n ((d : Int) + 1).toNat ((2 : Int) * (k : Int)).toNat) = true → True ∧ True ∧ True ∧ ([] = rdL p (n + 1) d k ∧ false = rdB p (n + 1) d k ∧ True) ∧ True) ∧ ((!rdB p n ((d : Int) + 1).toNat ((2 : Int) * (k : Int)).toNat) = false → True ∧ idxPre (0 : Int) (2 : Nat) ∧ True ∧ inR .i64 ((d : Int) + 1) ∧ idxPre (1 : Int) (2 : Nat) ∧ True ∧ inR .i64 ((2 : Int) * (k : Int)) ∧ inR .i64 ((2 : Int) * (k : Int) + 1) ∧ True ∧ (((∃ (d_1 : Nat), ∃ (k_1 : Nat), ((d : Int) + 1, (2 : Int) * (k : Int) + 1) = ((d_1 : Int), (k_1 : Int)) ∧ pre70 n d_1 k_1 p) ∧ (p = p ∧ [(d : Int) + 1, (2 : Int) * (k : Int) + 1] = [(d : Int) + 1, (2 : Int) * (k : Int) + 1] ∧ True) ∧ True) ∧ True) ∧ True ∧ True ∧ True ∧ True ∧ True ∧ True ∧ True ∧ sumPre (0 : Nat) (rdL p n ((d : Int) + 1).toNat ((2 : Int) * (k : Int) + 1).toNat).length (nat_lit 16) ∧ True ∧ True ∧ True ∧ True ∧ (rdL p n ((d : Int) + 1).toNat ((2 : Int) * (k : Int) + 1).toNat = rdL p (n + 1) d k ∧ rdB p n ((d : Int) + 1).toNat ((2 : Int) * (k : Int) + 1).toNat = rdB p (n + 1) d k ∧ True) ∧ True))))) (by kernel_rfl) ?_
   simp only [true_and, and_true, false_and, and_false, or_false, false_or, exists_const, exists_false, rat_num_den, rat_int, Int.toNat_natCast]
   rw [hq, e1, e2, e3]
   refine ⟨⟨hp.1, hpc⟩, by omega, fun h0 => ?_, fun h0 => ⟨fun h1 => ?_, fun h1 => ⟨i02, fun h => ?_, fun h => ⟨i02, by simp only [inR]; omega, i12, by simp only [inR]; omega, ⟨d + 1, 2 * k, by simp, l70, hl⟩, fun hx => ?_, fun hx => ?_⟩⟩⟩⟩
   · have h0 := c0 h0
     simp [rdL, rdB, h0]
   · have h0 := c0' h0
     have h1 := c1 h1
     simp [rdL, rdB, h0, h1]
   · omega
   · have h0 := c0' h0
     have h1 := c1' h1
     have hx : rdB p n (d + 1) (2 * k) = false := by simpa using hx
     simp [rdL, rdB, h0, h1, hx]
   · have h0 := c0' h0
     have h1 := c1' h1
     have hx : rdB p n (d + 1) (2 * k) = true := by simpa using hx
     exact ⟨i02, by simp only [inR]; omega, i12, by simp only [inR]; omega, by simp only [inR]; omega, ⟨d + 1, 2 * k + 1, by simp, r70⟩, by unfold sumPre; (try simp only [List.length_cons, List.length_nil] at *); omega, by simp [rdL, h0, h1, hx, hl], by simp [rdB, h0, h1, hx]⟩
 · refine gcall_of (X := (XD [e16, e33] [(36, [e70O n hO (rdL p n (d + 1) (2 * k))]), (51, [e70V n hV])])) ((XD_ok _ _)) (f := 70) (fn := Tryd.f70) (c := bodyOf Tryd.f70) (by kernel_rfl) (by kernel_rfl) (view := true) (rvs := [.tmp 4, .tmp 5]) (by kernel_rfl) (H := fun _ => none) 200 (by kernel_rfl) ?_
   refine of_eq (q := True ∧ True ∧ True ∧ True ∧ True ∧ ((isPoly p ∧ isPiece ((d : Int), (k : Int))) ∧ True) ∧ ((qs (cnr p (d : Int).toNat (k : Int).toNat)).length + 1 ≤ 1000000 ∧ True) ∧ True ∧ True ∧ True ∧ True ∧ ((↑(chg (qs (cnr p (d : Int).toNat (k : Int).toNat))) : Int) = 0 → True ∧ True ∧ True ∧ ([] = rdL p (n + 1) d k ∧ true = rdB p (n + 1) d k ∧ True) ∧ True) ∧ (¬(↑(chg (qs (cnr p (d : Int).toNat (k : Int).toNat))) : Int) = 0 → True ∧ True ∧ True ∧ ((↑(chg (qs (cnr p (d : Int).toNat (k : Int).toNat))) : Int) = 1 → True ∧ True ∧ True ∧ True ∧ True ∧ ([((d : Int), (k : Int))] = rdL p (n + 1) d k ∧ true = rdB p (n + 1) d k ∧ True) ∧ True) ∧ (¬(↑(chg (qs (cnr p (d : Int).toNat (k : Int).toNat))) : Int) = 1 → idxPre (0 : Int) (2 : Nat) ∧ True ∧ True ∧ True ∧ ((d : Int) = 6 → True ∧ True ∧ True ∧ ([] = rdL p (n + 1) d k ∧ false = rdB p (n + 1) d k ∧ True) ∧ True) ∧ (¬(d : Int) = 6 → True ∧ idxPre (0 : Int) (2 : Nat) ∧ True ∧ inR .i64 ((d : Int) + 1) ∧ idxPre (1 : Int) (2 : Nat) ∧ True ∧ inR .i64 ((2 : Int) * (k : Int)) ∧ True ∧ (((∃ (d_1 : Nat), ∃ (k_1 : Nat), ((d : Int) + 1, (2 : Int) * (k : Int)) = ((d_1 : Int), (k_1 : Int)) ∧ pre70 n d_1 k_1 p ∧ rdL p n d_1 k_1 = rdL p n (d + 1) ((2 : Nat) * k) ∧ ¬rdL p n (d + 1) ((2 : Nat) * k) = []) ∧ (p = p ∧ [(d : Int) + 1, (2 : Int) * (k : Int)] = [(d : Int) + 1, (2 : Int) * (k : Int)] ∧ True) ∧ True) ∧ True) ∧ True ∧ True ∧ True ∧ True ∧ True ∧ True ∧ True ∧ ((!rdB p n ((d : Int) + 1).toNat ((2 : Int) * (k : Int)).toNat) = true → True ∧ True ∧ True ∧ ([] = rdL p (n + 1) d k ∧ false = rdB p (n + 1) d k ∧ True) ∧ True) ∧ ((!rdB p n ((d : Int) + 1).toNat ((2 : Int) * (k : Int)).toNat) = false → True ∧ idxPre (0 : Int) (2 : Nat) ∧ True ∧ inR .i64 ((d : Int) + 1) ∧ idxPre (1 : Int) (2 : Nat) ∧ True ∧ inR .i64 ((2 : Int) * (k : Int)) ∧ inR .i64 ((2 : Int) * (k : Int) + 1) ∧ True ∧ (((∃ (d_1 : Nat), ∃ (k_1 : Nat), ((d : Int) + 1, (2 : Int) * (k : Int) + 1) = ((d_1 : Int), (k_1 : Int)) ∧ pre70 n d_1 k_1 p) ∧ (p = p ∧ [(d : Int) + 1, (2 : Int) * (k : Int) + 1] = [(d : Int) + 1, (2 : Int) * (k : Int) + 1] ∧ True) ∧ True) ∧ True) ∧ True ∧ True ∧ True ∧ True ∧ True ∧ True ∧ True ∧ sumPre (rdL p n (d + 1) ((2 : Nat) * k)).length (rdL p n ((d : Int) + 1).toNat ((2 : Int) * (k : Int) + 1).toNat).length (nat_lit 16) ∧ True ∧ True ∧ True ∧ True ∧ (rdL p n (d + 1) ((2 : Nat) * k) ++ rdL p n ((d : Int) + 1).toNat ((2 : Int) * (k : Int) + 1).toNat = rdL p (n + 1) d k ∧ rdB p n ((d : Int) + 1).toNat ((2 : Int) * (k : Int) + 1).toNat = rdB p (n + 1) d k ∧ True) ∧ True))))) (by kernel_rfl) ?_
   simp only [true_and, and_true, false_and, and_false, or_false, false_or, exists_const, exists_false, rat_num_den, rat_int, Int.toNat_natCast]
   rw [hq, e1, e2, e3]
   refine ⟨⟨hp.1, hpc⟩, by omega, fun h0 => ?_, fun h0 => ⟨fun h1 => ?_, fun h1 => ⟨i02, fun h => ?_, fun h => ⟨i02, by simp only [inR]; omega, i12, by simp only [inR]; omega, ⟨d + 1, 2 * k, by simp, l70, rfl, hl⟩, fun hx => ?_, fun hx => ?_⟩⟩⟩⟩
   · have h0 := c0 h0
     simp [rdL, rdB, h0]
   · have h0 := c0' h0
     have h1 := c1 h1
     simp [rdL, rdB, h0, h1]
   · omega
   · have h0 := c0' h0
     have h1 := c1' h1
     have hx : rdB p n (d + 1) (2 * k) = false := by simpa using hx
     simp [rdL, rdB, h0, h1, hx]
   · have h0 := c0' h0
     have h1 := c1' h1
     have hx : rdB p n (d + 1) (2 * k) = true := by simpa using hx
     exact ⟨i02, by simp only [inR]; omega, i12, by simp only [inR]; omega, by simp only [inR]; omega, ⟨d + 1, 2 * k + 1, by simp, r70⟩, by unfold sumPre; (try simp only [List.length_cons, List.length_nil] at *); omega, by first | (simp [rdL, h0, h1, hx]; done) | (simp [rdL, h0, h1, hx]; rfl), by simp [rdB, h0, h1, hx]⟩
theorem kO1 (n : Nat) (hV : KV n) (hO : KO n) (hN : KN n) : KO (n + 1) := by
 intro d k p hp hne
 have hpc := piece70 hp
 have hln := qc_length p d k
 have hpl := hp.1.2.1
 have h6 := hp.2.1
 have hb := pre_lt (m := []) ⟨hp.1, hp.2.1, hp.2.2, memoOk_nil p⟩
 have L1 := rdL_len p n (d + 1) (2 * k)
 have L2 := rdL_len p n (d + 1) (2 * k + 1)
 have L0 := Nat.pow_le_pow_right (show 0 < 2 by omega) (show n ≤ 6 by omega)
 have e1 : ((d : Int) + 1).toNat = d + 1 := by omega
 have e2 : (2 * (k : Int)).toNat = 2 * k := by omega
 have e3 : (2 * (k : Int) + 1).toNat = 2 * k + 1 := by omega
 have l70 := left70 hp
 have r70 := right70 hp
 have hq : qs (cnr p d k) = qc p d k := rfl
 have c0 : (chg (qc p d k) : Int) = 0 → cgs p d k = 0 := fun h => by unfold cgs; omega
 have c0' : ¬ (chg (qc p d k) : Int) = 0 → cgs p d k ≠ 0 := fun h => by unfold cgs; omega
 have c1 : (chg (qc p d k) : Int) = 1 → cgs p d k = 1 := fun h => by unfold cgs; omega
 have c1' : ¬ (chg (qc p d k) : Int) = 1 → cgs p d k ≠ 1 := fun h => by unfold cgs; omega
 by_cases hl : rdL p n (d + 1) (2 * k) = []
 · by_cases hr : rdL p n (d + 1) (2 * k + 1) = []
   · refine gcall_of (X := (XD [e16, e33] [(36, [e70N n hN]), (51, [e70N n hN])])) ((XD_ok _ _)) (f := 70) (fn := Tryd.f70) (c := bodyOf Tryd.f70) (by kernel_rfl) (by kernel_rfl) (view := false) (rvs := [.tmp 4, .tmp 5]) (by kernel_rfl) (H := fun _ => none) 200 (by kernel_rfl) ?_
     refine of_eq (q := True ∧ True ∧ True ∧ True ∧ True ∧ ((isPoly p ∧ isPiece ((d : Int), (k : Int))) ∧ True) ∧ ((qs (cnr p (d : Int).toNat (k : Int).toNat)).length + 1 ≤ 1000000 ∧ True) ∧ True ∧ True ∧ True ∧ True ∧ ((↑(chg (qs (cnr p (d : Int).toNat (k : Int).toNat))) : Int) = 0 → True ∧ True ∧ True ∧ (False ∧ true = rdB p (n + 1) d k ∧ True) ∧ False) ∧ (¬(↑(chg (qs (cnr p (d : Int).toNat (k : Int).toNat))) : Int) = 0 → True ∧ True ∧ True ∧ ((↑(chg (qs (cnr p (d : Int).toNat (k : Int).toNat))) : Int) = 1 → True ∧ True ∧ True ∧ True ∧ True ∧ (True ∧ true = rdB p (n + 1) d k ∧ True) ∧ [((d : Int), (k : Int))] = rdL p (n + 1) d k ∧ True) ∧ (¬(↑(chg (qs (cnr p (d : Int).toNat (k : Int).toNat))) : Int) = 1 → idxPre (0 : Int) (2 : Nat) ∧ True ∧ True ∧ True ∧ ((d : Int) = 6 → True ∧ True ∧ True ∧ (False ∧ false = rdB p (n + 1) d k ∧ True) ∧ False) ∧ (¬(d : Int) = 6 → True ∧ idxPre (0 : Int) (2 : Nat) ∧ True ∧ inR .i64 ((d : Int) + 1) ∧ idxPre (1 : Int) (2 : Nat) ∧ True ∧ inR .i64 ((2 : Int) * (k : Int)) ∧ True ∧ (((∃ (d_1 : Nat), ∃ (k_1 : Nat), ((d : Int) + 1, (2 : Int) * (k : Int)) = ((d_1 : Int), (k_1 : Int)) ∧ pre70 n d_1 k_1 p ∧ rdL p n d_1 k_1 = []) ∧ (p = p ∧ [(d : Int) + 1, (2 : Int) * (k : Int)] = [(d : Int) + 1, (2 : Int) * (k : Int)] ∧ True) ∧ True) ∧ True) ∧ True ∧ True ∧ True ∧ True ∧ True ∧ True ∧ True ∧ ((!rdB p n ((d : Int) + 1).toNat ((2 : Int) * (k : Int)).toNat) = true → True ∧ True ∧ True ∧ (False ∧ false = rdB p (n + 1) d k ∧ True) ∧ False) ∧ ((!rdB p n ((d : Int) + 1).toNat ((2 : Int) * (k : Int)).toNat) = false → True ∧ idxPre (0 : Int) (2 : Nat) ∧ True ∧ inR .i64 ((d : Int) + 1) ∧ idxPre (1 : Int) (2 : Nat) ∧ True ∧ inR .i64 ((2 : Int) * (k : Int)) ∧ inR .i64 ((2 : Int) * (k : Int) + 1) ∧ True ∧ (((∃ (d_1 : Nat), ∃ (k_1 : Nat), ((d : Int) + 1, (2 : Int) * (k : Int) + 1) = ((d_1 : Int), (k_1 : Int)) ∧ pre70 n d_1 k_1 p ∧ rdL p n d_1 k_1 = []) ∧ (p = p ∧ [(d : Int) + 1, (2 : Int) * (k : Int) + 1] = [(d : Int) + 1, (2 : Int) * (k : Int) + 1] ∧ True) ∧ True) ∧ True) ∧ True ∧ True ∧ True ∧ True ∧ True ∧ True ∧ True ∧ sumPre (0 : Nat) (0 : Nat) (nat_lit 16) ∧ True ∧ True ∧ True ∧ True ∧ (False ∧ rdB p n ((d : Int) + 1).toNat ((2 : Int) * (k : Int) + 1).toNat = rdB p (n + 1) d k ∧ True) ∧ False))))) (by kernel_rfl) ?_
     simp only [true_and, and_true, false_and, and_false, or_false, false_or, exists_const, exists_false, rat_num_den, rat_int, Int.toNat_natCast]
     rw [hq, e1, e2]
     refine ⟨⟨hp.1, hpc⟩, by omega, fun h0 => ?_, fun h0 => ⟨fun h1 => ?_, fun h1 => ⟨i02, fun h => ?_, fun h => ⟨i02, by simp only [inR]; omega, i12, by simp only [inR]; omega, ⟨d + 1, 2 * k, by simp, l70, hl⟩, fun hx => ?_, fun hx => ?_⟩⟩⟩⟩
     · have h0 := c0 h0
       simp [rdL, h0] at hne
     · have h0 := c0' h0
       have h1 := c1 h1
       simp [rdL, rdB, h0, h1]
     · omega
     · have h0 := c0' h0
       have h1 := c1' h1
       have hx : rdB p n (d + 1) (2 * k) = false := by simpa using hx
       simp [rdL, h0, h1, hx] at hne
     · have h0 := c0' h0
       have h1 := c1' h1
       have hx : rdB p n (d + 1) (2 * k) = true := by simpa using hx
       simp [rdL, h0, h1, hx, hl, hr] at hne
   · obtain ⟨z, zs, hz⟩ : ∃ z zs, rdL p n (d + 1) (2 * k + 1) = z :: zs := by
       cases h : rdL p n (d + 1) (2 * k + 1) with
       | nil => exact absurd h hr
       | cons z zs => exact ⟨z, zs, rfl⟩
     refine gcall_of (X := (XD [e16, e33] [(36, [e70N n hN]), (51, [e70O n hO (z :: zs)])])) ((XD_ok _ _)) (f := 70) (fn := Tryd.f70) (c := bodyOf Tryd.f70) (by kernel_rfl) (by kernel_rfl) (view := false) (rvs := [.tmp 4, .tmp 5]) (by kernel_rfl) (H := fun _ => none) 200 (by kernel_rfl) ?_
     refine of_eq (q := True ∧ True ∧ True ∧ True ∧ True ∧ ((isPoly p ∧ isPiece ((d : Int), (k : Int))) ∧ True) ∧ ((qs (cnr p (d : Int).toNat (k : Int).toNat)).length + 1 ≤ 1000000 ∧ True) ∧ True ∧ True ∧ True ∧ True ∧ ((↑(chg (qs (cnr p (d : Int).toNat (k : Int).toNat))) : Int) = 0 → True ∧ True ∧ True ∧ (False ∧ true = rdB p (n + 1) d k ∧ True) ∧ False) ∧ (¬(↑(chg (qs (cnr p (d : Int).toNat (k : Int).toNat))) : Int) = 0 → True ∧ True ∧ True ∧ ((↑(chg (qs (cnr p (d : Int).toNat (k : Int).toNat))) : Int) = 1 → True ∧ True ∧ True ∧ True ∧ True ∧ (True ∧ true = rdB p (n + 1) d k ∧ True) ∧ [((d : Int), (k : Int))] = rdL p (n + 1) d k ∧ True) ∧ (¬(↑(chg (qs (cnr p (d : Int).toNat (k : Int).toNat))) : Int) = 1 → idxPre (0 : Int) (2 : Nat) ∧ True ∧ True ∧ True ∧ ((d : Int) = 6 → True ∧ True ∧ True ∧ (False ∧ false = rdB p (n + 1) d k ∧ True) ∧ False) ∧ (¬(d : Int) = 6 → True ∧ idxPre (0 : Int) (2 : Nat) ∧ True ∧ inR .i64 ((d : Int) + 1) ∧ idxPre (1 : Int) (2 : Nat) ∧ True ∧ inR .i64 ((2 : Int) * (k : Int)) ∧ True ∧ (((∃ (d_1 : Nat), ∃ (k_1 : Nat), ((d : Int) + 1, (2 : Int) * (k : Int)) = ((d_1 : Int), (k_1 : Int)) ∧ pre70 n d_1 k_1 p ∧ rdL p n d_1 k_1 = []) ∧ (p = p ∧ [(d : Int) + 1, (2 : Int) * (k : Int)] = [(d : Int) + 1, (2 : Int) * (k : Int)] ∧ True) ∧ True) ∧ True) ∧ True ∧ True ∧ True ∧ True ∧ True ∧ True ∧ True ∧ ((!rdB p n ((d : Int) + 1).toNat ((2 : Int) * (k : Int)).toNat) = true → True ∧ True ∧ True ∧ (False ∧ false = rdB p (n + 1) d k ∧ True) ∧ False) ∧ ((!rdB p n ((d : Int) + 1).toNat ((2 : Int) * (k : Int)).toNat) = false → True ∧ idxPre (0 : Int) (2 : Nat) ∧ True ∧ inR .i64 ((d : Int) + 1) ∧ idxPre (1 : Int) (2 : Nat) ∧ True ∧ inR .i64 ((2 : Int) * (k : Int)) ∧ inR .i64 ((2 : Int) * (k : Int) + 1) ∧ True ∧ (((∃ (d_1 : Nat), ∃ (k_1 : Nat), ((d : Int) + 1, (2 : Int) * (k : Int) + 1) = ((d_1 : Int), (k_1 : Int)) ∧ pre70 n d_1 k_1 p ∧ rdL p n d_1 k_1 = z :: zs ∧ ¬z :: zs = []) ∧ (p = p ∧ [(d : Int) + 1, (2 : Int) * (k : Int) + 1] = [(d : Int) + 1, (2 : Int) * (k : Int) + 1] ∧ True) ∧ True) ∧ True) ∧ True ∧ True ∧ True ∧ True ∧ True ∧ True ∧ True ∧ sumPre (0 : Nat) (z :: zs).length (nat_lit 16) ∧ True ∧ True ∧ True ∧ True ∧ (True ∧ rdB p n ((d : Int) + 1).toNat ((2 : Int) * (k : Int) + 1).toNat = rdB p (n + 1) d k ∧ True) ∧ z :: zs = rdL p (n + 1) d k ∧ True))))) (by kernel_rfl) ?_
     simp only [true_and, and_true, false_and, and_false, or_false, false_or, exists_const, exists_false, rat_num_den, rat_int, Int.toNat_natCast]
     rw [hq, e1, e2, e3]
     refine ⟨⟨hp.1, hpc⟩, by omega, fun h0 => ?_, fun h0 => ⟨fun h1 => ?_, fun h1 => ⟨i02, fun h => ?_, fun h => ⟨i02, by simp only [inR]; omega, i12, by simp only [inR]; omega, ⟨d + 1, 2 * k, by simp, l70, hl⟩, fun hx => ?_, fun hx => ?_⟩⟩⟩⟩
     · have h0 := c0 h0
       simp [rdL, h0] at hne
     · have h0 := c0' h0
       have h1 := c1 h1
       simp [rdL, rdB, h0, h1]
     · omega
     · have h0 := c0' h0
       have h1 := c1' h1
       have hx : rdB p n (d + 1) (2 * k) = false := by simpa using hx
       simp [rdL, h0, h1, hx] at hne
     · have h0 := c0' h0
       have h1 := c1' h1
       have hx : rdB p n (d + 1) (2 * k) = true := by simpa using hx
       rw [hz] at L2
       exact ⟨i02, by simp only [inR]; omega, i12, by simp only [inR]; omega, by simp only [inR]; omega, ⟨d + 1, 2 * k + 1, by simp, r70, hz, by simp⟩, by unfold sumPre; (try simp only [List.length_cons, List.length_nil] at *); omega, by simp [rdB, h0, h1, hx], by simp [rdL, h0, h1, hx, hl, hz]⟩
 · refine gcall_of (X := (XD [e16, e33] [(36, [e70O n hO (rdL p n (d + 1) (2 * k))]), (51, [e70V n hV])])) ((XD_ok _ _)) (f := 70) (fn := Tryd.f70) (c := bodyOf Tryd.f70) (by kernel_rfl) (by kernel_rfl) (view := false) (rvs := [.tmp 4, .tmp 5]) (by kernel_rfl) (H := fun _ => none) 200 (by kernel_rfl) ?_
   refine of_eq (q := True ∧ True ∧ True ∧ True ∧ True ∧ ((isPoly p ∧ isPiece ((d : Int), (k : Int))) ∧ True) ∧ ((qs (cnr p (d : Int).toNat (k : Int).toNat)).length + 1 ≤ 1000000 ∧ True) ∧ True ∧ True ∧ True ∧ True ∧ ((↑(chg (qs (cnr p (d : Int).toNat (k : Int).toNat))) : Int) = 0 → True ∧ True ∧ True ∧ (False ∧ true = rdB p (n + 1) d k ∧ True) ∧ False) ∧ (¬(↑(chg (qs (cnr p (d : Int).toNat (k : Int).toNat))) : Int) = 0 → True ∧ True ∧ True ∧ ((↑(chg (qs (cnr p (d : Int).toNat (k : Int).toNat))) : Int) = 1 → True ∧ True ∧ True ∧ True ∧ True ∧ (True ∧ true = rdB p (n + 1) d k ∧ True) ∧ [((d : Int), (k : Int))] = rdL p (n + 1) d k ∧ True) ∧ (¬(↑(chg (qs (cnr p (d : Int).toNat (k : Int).toNat))) : Int) = 1 → idxPre (0 : Int) (2 : Nat) ∧ True ∧ True ∧ True ∧ ((d : Int) = 6 → True ∧ True ∧ True ∧ (False ∧ false = rdB p (n + 1) d k ∧ True) ∧ False) ∧ (¬(d : Int) = 6 → True ∧ idxPre (0 : Int) (2 : Nat) ∧ True ∧ inR .i64 ((d : Int) + 1) ∧ idxPre (1 : Int) (2 : Nat) ∧ True ∧ inR .i64 ((2 : Int) * (k : Int)) ∧ True ∧ (((∃ (d_1 : Nat), ∃ (k_1 : Nat), ((d : Int) + 1, (2 : Int) * (k : Int)) = ((d_1 : Int), (k_1 : Int)) ∧ pre70 n d_1 k_1 p ∧ rdL p n d_1 k_1 = rdL p n (d + 1) ((2 : Nat) * k) ∧ ¬rdL p n (d + 1) ((2 : Nat) * k) = []) ∧ (p = p ∧ [(d : Int) + 1, (2 : Int) * (k : Int)] = [(d : Int) + 1, (2 : Int) * (k : Int)] ∧ True) ∧ True) ∧ True) ∧ True ∧ True ∧ True ∧ True ∧ True ∧ True ∧ True ∧ ((!rdB p n ((d : Int) + 1).toNat ((2 : Int) * (k : Int)).toNat) = true → True ∧ True ∧ True ∧ (False ∧ false = rdB p (n + 1) d k ∧ True) ∧ False) ∧ ((!rdB p n ((d : Int) + 1).toNat ((2 : Int) * (k : Int)).toNat) = false → True ∧ idxPre (0 : Int) (2 : Nat) ∧ True ∧ inR .i64 ((d : Int) + 1) ∧ idxPre (1 : Int) (2 : Nat) ∧ True ∧ inR .i64 ((2 : Int) * (k : Int)) ∧ inR .i64 ((2 : Int) * (k : Int) + 1) ∧ True ∧ (((∃ (d_1 : Nat), ∃ (k_1 : Nat), ((d : Int) + 1, (2 : Int) * (k : Int) + 1) = ((d_1 : Int), (k_1 : Int)) ∧ pre70 n d_1 k_1 p) ∧ (p = p ∧ [(d : Int) + 1, (2 : Int) * (k : Int) + 1] = [(d : Int) + 1, (2 : Int) * (k : Int) + 1] ∧ True) ∧ True) ∧ True) ∧ True ∧ True ∧ True ∧ True ∧ True ∧ True ∧ True ∧ sumPre (rdL p n (d + 1) ((2 : Nat) * k)).length (rdL p n ((d : Int) + 1).toNat ((2 : Int) * (k : Int) + 1).toNat).length (nat_lit 16) ∧ True ∧ True ∧ True ∧ True ∧ (True ∧ rdB p n ((d : Int) + 1).toNat ((2 : Int) * (k : Int) + 1).toNat = rdB p (n + 1) d k ∧ True) ∧ rdL p n (d + 1) ((2 : Nat) * k) ++ rdL p n ((d : Int) + 1).toNat ((2 : Int) * (k : Int) + 1).toNat = rdL p (n + 1) d k ∧ True))))) (by kernel_rfl) ?_
   simp only [true_and, and_true, false_and, and_false, or_false, false_or, exists_const, exists_false, rat_num_den, rat_int, Int.toNat_natCast]
   rw [hq, e1, e2, e3]
   refine ⟨⟨hp.1, hpc⟩, by omega, fun h0 => ?_, fun h0 => ⟨fun h1 => ?_, fun h1 => ⟨i02, fun h => ?_, fun h => ⟨i02, by simp only [inR]; omega, i12, by simp only [inR]; omega, ⟨d + 1, 2 * k, by simp, l70, rfl, hl⟩, fun hx => ?_, fun hx => ?_⟩⟩⟩⟩
   · have h0 := c0 h0
     simp [rdL, h0] at hne
   · have h0 := c0' h0
     have h1 := c1 h1
     simp [rdL, rdB, h0, h1]
   · omega
   · have h0 := c0' h0
     have h1 := c1' h1
     have hx : rdB p n (d + 1) (2 * k) = false := by simpa using hx
     simp [rdL, h0, h1, hx] at hne
   · have h0 := c0' h0
     have h1 := c1' h1
     have hx : rdB p n (d + 1) (2 * k) = true := by simpa using hx
     exact ⟨i02, by simp only [inR]; omega, i12, by simp only [inR]; omega, by simp only [inR]; omega, ⟨d + 1, 2 * k + 1, by simp, r70⟩, by unfold sumPre; (try simp only [List.length_cons, List.length_nil] at *); omega, by simp [rdB, h0, h1, hx], by first | (simp [rdL, h0, h1, hx]; done) | (simp [rdL, h0, h1, hx]; rfl)⟩
theorem kN1 (n : Nat) (hV : KV n) (hO : KO n) (hN : KN n) : KN (n + 1) := by
 intro d k p hp hne
 have hpc := piece70 hp
 have hln := qc_length p d k
 have hpl := hp.1.2.1
 have h6 := hp.2.1
 have hb := pre_lt (m := []) ⟨hp.1, hp.2.1, hp.2.2, memoOk_nil p⟩
 have L1 := rdL_len p n (d + 1) (2 * k)
 have L2 := rdL_len p n (d + 1) (2 * k + 1)
 have L0 := Nat.pow_le_pow_right (show 0 < 2 by omega) (show n ≤ 6 by omega)
 have e1 : ((d : Int) + 1).toNat = d + 1 := by omega
 have e2 : (2 * (k : Int)).toNat = 2 * k := by omega
 have e3 : (2 * (k : Int) + 1).toNat = 2 * k + 1 := by omega
 have l70 := left70 hp
 have r70 := right70 hp
 have hq : qs (cnr p d k) = qc p d k := rfl
 have c0 : (chg (qc p d k) : Int) = 0 → cgs p d k = 0 := fun h => by unfold cgs; omega
 have c0' : ¬ (chg (qc p d k) : Int) = 0 → cgs p d k ≠ 0 := fun h => by unfold cgs; omega
 have c1 : (chg (qc p d k) : Int) = 1 → cgs p d k = 1 := fun h => by unfold cgs; omega
 have c1' : ¬ (chg (qc p d k) : Int) = 1 → cgs p d k ≠ 1 := fun h => by unfold cgs; omega
 by_cases hl : rdL p n (d + 1) (2 * k) = []
 · refine gcall_of (X := (XD [e16, e33] [(36, [e70N n hN]), (51, [e70N n hN])])) ((XD_ok _ _)) (f := 70) (fn := Tryd.f70) (c := bodyOf Tryd.f70) (by kernel_rfl) (by kernel_rfl) (view := false) (rvs := [.tmp 4, .tmp 5]) (by kernel_rfl) (H := fun _ => none) 200 (by kernel_rfl) ?_
   refine of_eq (q := True ∧ True ∧ True ∧ True ∧ True ∧ ((isPoly p ∧ isPiece ((d : Int), (k : Int))) ∧ True) ∧ ((qs (cnr p (d : Int).toNat (k : Int).toNat)).length + 1 ≤ 1000000 ∧ True) ∧ True ∧ True ∧ True ∧ True ∧ ((↑(chg (qs (cnr p (d : Int).toNat (k : Int).toNat))) : Int) = 0 → True ∧ True ∧ True ∧ (True ∧ true = rdB p (n + 1) d k ∧ True) ∧ True) ∧ (¬(↑(chg (qs (cnr p (d : Int).toNat (k : Int).toNat))) : Int) = 0 → True ∧ True ∧ True ∧ ((↑(chg (qs (cnr p (d : Int).toNat (k : Int).toNat))) : Int) = 1 → True ∧ True ∧ True ∧ True ∧ True ∧ (False ∧ true = rdB p (n + 1) d k ∧ True) ∧ True) ∧ (¬(↑(chg (qs (cnr p (d : Int).toNat (k : Int).toNat))) : Int) = 1 → idxPre (0 : Int) (2 : Nat) ∧ True ∧ True ∧ True ∧ ((d : Int) = 6 → True ∧ True ∧ True ∧ (True ∧ false = rdB p (n + 1) d k ∧ True) ∧ True) ∧ (¬(d : Int) = 6 → True ∧ idxPre (0 : Int) (2 : Nat) ∧ True ∧ inR .i64 ((d : Int) + 1) ∧ idxPre (1 : Int) (2 : Nat) ∧ True ∧ inR .i64 ((2 : Int) * (k : Int)) ∧ True ∧ (((∃ (d_1 : Nat), ∃ (k_1 : Nat), ((d : Int) + 1, (2 : Int) * (k : Int)) = ((d_1 : Int), (k_1 : Int)) ∧ pre70 n d_1 k_1 p ∧ rdL p n d_1 k_1 = []) ∧ (p = p ∧ [(d : Int) + 1, (2 : Int) * (k : Int)] = [(d : Int) + 1, (2 : Int) * (k : Int)] ∧ True) ∧ True) ∧ True) ∧ True ∧ True ∧ True ∧ True ∧ True ∧ True ∧ True ∧ ((!rdB p n ((d : Int) + 1).toNat ((2 : Int) * (k : Int)).toNat) = true → True ∧ True ∧ True ∧ (True ∧ false = rdB p (n + 1) d k ∧ True) ∧ True) ∧ ((!rdB p n ((d : Int) + 1).toNat ((2 : Int) * (k : Int)).toNat) = false → True ∧ idxPre (0 : Int) (2 : Nat) ∧ True ∧ inR .i64 ((d : Int) + 1) ∧ idxPre (1 : Int) (2 : Nat) ∧ True ∧ inR .i64 ((2 : Int) * (k : Int)) ∧ inR .i64 ((2 : Int) * (k : Int) + 1) ∧ True ∧ (((∃ (d_1 : Nat), ∃ (k_1 : Nat), ((d : Int) + 1, (2 : Int) * (k : Int) + 1) = ((d_1 : Int), (k_1 : Int)) ∧ pre70 n d_1 k_1 p ∧ rdL p n d_1 k_1 = []) ∧ (p = p ∧ [(d : Int) + 1, (2 : Int) * (k : Int) + 1] = [(d : Int) + 1, (2 : Int) * (k : Int) + 1] ∧ True) ∧ True) ∧ True) ∧ True ∧ True ∧ True ∧ True ∧ True ∧ True ∧ True ∧ sumPre (0 : Nat) (0 : Nat) (nat_lit 16) ∧ True ∧ True ∧ True ∧ True ∧ (True ∧ rdB p n ((d : Int) + 1).toNat ((2 : Int) * (k : Int) + 1).toNat = rdB p (n + 1) d k ∧ True) ∧ True))))) (by kernel_rfl) ?_
   simp only [true_and, and_true, false_and, and_false, or_false, false_or, exists_const, exists_false, rat_num_den, rat_int, Int.toNat_natCast]
   rw [hq, e1, e2, e3]
   refine ⟨⟨hp.1, hpc⟩, by omega, fun h0 => ?_, fun h0 => ⟨fun h1 => ?_, fun h1 => ⟨i02, fun h => ?_, fun h => ⟨i02, by simp only [inR]; omega, i12, by simp only [inR]; omega, ⟨d + 1, 2 * k, by simp, l70, hl⟩, fun hx => ?_, fun hx => ?_⟩⟩⟩⟩
   · have h0 := c0 h0
     simp [rdB, h0]
   · have h0 := c0' h0
     have h1 := c1 h1
     simp [rdL, h0, h1] at hne
   · omega
   · have h0 := c0' h0
     have h1 := c1' h1
     have hx : rdB p n (d + 1) (2 * k) = false := by simpa using hx
     simp [rdB, h0, h1, hx]
   · have h0 := c0' h0
     have h1 := c1' h1
     have hx : rdB p n (d + 1) (2 * k) = true := by simpa using hx
     have hr : rdL p n (d + 1) (2 * k + 1) = [] := by simpa [rdL, h0, h1, hx, hl] using hne
     exact ⟨i02, by simp only [inR]; omega, i12, by simp only [inR]; omega, by simp only [inR]; omega, ⟨d + 1, 2 * k + 1, by simp, r70, hr⟩, by unfold sumPre; (try simp only [List.length_cons, List.length_nil] at *); omega, by simp [rdB, h0, h1, hx]⟩
 · refine gcall_of (X := (XD [e16, e33] [(36, [e70O n hO (rdL p n (d + 1) (2 * k))]), (51, [e70V n hV])])) ((XD_ok _ _)) (f := 70) (fn := Tryd.f70) (c := bodyOf Tryd.f70) (by kernel_rfl) (by kernel_rfl) (view := false) (rvs := [.tmp 4, .tmp 5]) (by kernel_rfl) (H := fun _ => none) 200 (by kernel_rfl) ?_
   refine of_eq (q := True ∧ True ∧ True ∧ True ∧ True ∧ ((isPoly p ∧ isPiece ((d : Int), (k : Int))) ∧ True) ∧ ((qs (cnr p (d : Int).toNat (k : Int).toNat)).length + 1 ≤ 1000000 ∧ True) ∧ True ∧ True ∧ True ∧ True ∧ ((↑(chg (qs (cnr p (d : Int).toNat (k : Int).toNat))) : Int) = 0 → True ∧ True ∧ True ∧ (True ∧ true = rdB p (n + 1) d k ∧ True) ∧ True) ∧ (¬(↑(chg (qs (cnr p (d : Int).toNat (k : Int).toNat))) : Int) = 0 → True ∧ True ∧ True ∧ ((↑(chg (qs (cnr p (d : Int).toNat (k : Int).toNat))) : Int) = 1 → True ∧ True ∧ True ∧ True ∧ True ∧ (False ∧ true = rdB p (n + 1) d k ∧ True) ∧ True) ∧ (¬(↑(chg (qs (cnr p (d : Int).toNat (k : Int).toNat))) : Int) = 1 → idxPre (0 : Int) (2 : Nat) ∧ True ∧ True ∧ True ∧ ((d : Int) = 6 → True ∧ True ∧ True ∧ (True ∧ false = rdB p (n + 1) d k ∧ True) ∧ True) ∧ (¬(d : Int) = 6 → True ∧ idxPre (0 : Int) (2 : Nat) ∧ True ∧ inR .i64 ((d : Int) + 1) ∧ idxPre (1 : Int) (2 : Nat) ∧ True ∧ inR .i64 ((2 : Int) * (k : Int)) ∧ True ∧ (((∃ (d_1 : Nat), ∃ (k_1 : Nat), ((d : Int) + 1, (2 : Int) * (k : Int)) = ((d_1 : Int), (k_1 : Int)) ∧ pre70 n d_1 k_1 p ∧ rdL p n d_1 k_1 = rdL p n (d + 1) ((2 : Nat) * k) ∧ ¬rdL p n (d + 1) ((2 : Nat) * k) = []) ∧ (p = p ∧ [(d : Int) + 1, (2 : Int) * (k : Int)] = [(d : Int) + 1, (2 : Int) * (k : Int)] ∧ True) ∧ True) ∧ True) ∧ True ∧ True ∧ True ∧ True ∧ True ∧ True ∧ True ∧ ((!rdB p n ((d : Int) + 1).toNat ((2 : Int) * (k : Int)).toNat) = true → True ∧ True ∧ True ∧ (True ∧ false = rdB p (n + 1) d k ∧ True) ∧ True) ∧ ((!rdB p n ((d : Int) + 1).toNat ((2 : Int) * (k : Int)).toNat) = false → True ∧ idxPre (0 : Int) (2 : Nat) ∧ True ∧ inR .i64 ((d : Int) + 1) ∧ idxPre (1 : Int) (2 : Nat) ∧ True ∧ inR .i64 ((2 : Int) * (k : Int)) ∧ inR .i64 ((2 : Int) * (k : Int) + 1) ∧ True ∧ (((∃ (d_1 : Nat), ∃ (k_1 : Nat), ((d : Int) + 1, (2 : Int) * (k : Int) + 1) = ((d_1 : Int), (k_1 : Int)) ∧ pre70 n d_1 k_1 p) ∧ (p = p ∧ [(d : Int) + 1, (2 : Int) * (k : Int) + 1] = [(d : Int) + 1, (2 : Int) * (k : Int) + 1] ∧ True) ∧ True) ∧ True) ∧ True ∧ True ∧ True ∧ True ∧ True ∧ True ∧ True ∧ sumPre (rdL p n (d + 1) ((2 : Nat) * k)).length (rdL p n ((d : Int) + 1).toNat ((2 : Int) * (k : Int) + 1).toNat).length (nat_lit 16) ∧ True ∧ True ∧ True ∧ True ∧ (False ∧ rdB p n ((d : Int) + 1).toNat ((2 : Int) * (k : Int) + 1).toNat = rdB p (n + 1) d k ∧ True) ∧ True))))) (by kernel_rfl) ?_
   simp only [true_and, and_true, false_and, and_false, or_false, false_or, exists_const, exists_false, rat_num_den, rat_int, Int.toNat_natCast]
   rw [hq, e1, e2]
   refine ⟨⟨hp.1, hpc⟩, by omega, fun h0 => ?_, fun h0 => ⟨fun h1 => ?_, fun h1 => ⟨i02, fun h => ?_, fun h => ⟨i02, by simp only [inR]; omega, i12, by simp only [inR]; omega, ⟨d + 1, 2 * k, by simp, l70, rfl, hl⟩, fun hx => ?_, fun hx => ?_⟩⟩⟩⟩
   · have h0 := c0 h0
     simp [rdB, h0]
   · have h0 := c0' h0
     have h1 := c1 h1
     simp [rdL, h0, h1] at hne
   · omega
   · have h0 := c0' h0
     have h1 := c1' h1
     have hx : rdB p n (d + 1) (2 * k) = false := by simpa using hx
     simp [rdB, h0, h1, hx]
   · have h0 := c0' h0
     have h1 := c1' h1
     have hx : rdB p n (d + 1) (2 * k) = true := by simpa using hx
     simp [rdL, h0, h1, hx, hl] at hne
theorem kO0 : KO 0 := by
 intro d k p hp hne
 refine gcall_of (X := (XD [e16, e33] [])) ((XD_ok _ _)) (f := 70) (fn := Tryd.f70) (c := bodyOf Tryd.f70) (by kernel_rfl) (by kernel_rfl) (view := false) (rvs := [.tmp 4, .tmp 5]) (by kernel_rfl) (H := fun _ => none) 200 (by kernel_rfl) ?_
 refine of_eq (q := True ∧ True ∧ True ∧ True ∧ True ∧ ((isPoly p ∧ isPiece ((d : Int), (k : Int))) ∧ True) ∧ ((qs (cnr p (d : Int).toNat (k : Int).toNat)).length + 1 ≤ 1000000 ∧ True) ∧ True ∧ True ∧ True ∧ True ∧ ((↑(chg (qs (cnr p (d : Int).toNat (k : Int).toNat))) : Int) = 0 → True ∧ True ∧ True ∧ (False ∧ true = rdB p (0 : Nat) d k ∧ True) ∧ False) ∧ (¬(↑(chg (qs (cnr p (d : Int).toNat (k : Int).toNat))) : Int) = 0 → True ∧ True ∧ True ∧ ((↑(chg (qs (cnr p (d : Int).toNat (k : Int).toNat))) : Int) = 1 → True ∧ True ∧ True ∧ True ∧ True ∧ (True ∧ true = rdB p (0 : Nat) d k ∧ True) ∧ [((d : Int), (k : Int))] = rdL p (0 : Nat) d k ∧ True) ∧ (¬(↑(chg (qs (cnr p (d : Int).toNat (k : Int).toNat))) : Int) = 1 → idxPre (0 : Int) (2 : Nat) ∧ True ∧ True ∧ True ∧ ((d : Int) = 6 → True ∧ True ∧ True ∧ (False ∧ false = rdB p (0 : Nat) d k ∧ True) ∧ False) ∧ (¬(d : Int) = 6 → True ∧ idxPre (0 : Int) (2 : Nat) ∧ True ∧ inR .i64 ((d : Int) + 1) ∧ idxPre (1 : Int) (2 : Nat) ∧ True ∧ inR .i64 ((2 : Int) * (k : Int)) ∧ True ∧ False)))) (by kernel_rfl) ?_
 simp only [true_and, and_true, false_and, and_false, or_false, false_or, exists_const, exists_false, rat_num_den, rat_int, Int.toNat_natCast]
 have hq : qs (cnr p d k) = qc p d k := rfl
 rw [hq]
 have hpc := piece70 hp
 have hln := qc_length p d k
 have hpl := hp.1.2.1
 have h6 := hp.2.1
 refine ⟨⟨hp.1, hpc⟩, by omega, fun h0 => ?_, fun h0 => ⟨fun h1 => ?_, fun h1 => ⟨i02, fun _ => ?_, fun h => by omega⟩⟩⟩
 · have h0 : cgs p d k = 0 := by unfold cgs; omega
   simp [rdL, h0] at hne
 · have h0 : cgs p d k ≠ 0 := by unfold cgs; omega
   have h1 : cgs p d k = 1 := by unfold cgs; omega
   simp [rdL, rdB, h1]
 · have h0 : cgs p d k ≠ 0 := by unfold cgs; omega
   have h1 : cgs p d k ≠ 1 := by unfold cgs; omega
   simp [rdL, h0, h1] at hne
theorem kN0 : KN 0 := by
 intro d k p hp hne
 refine gcall_of (X := (XD [e16, e33] [])) ((XD_ok _ _)) (f := 70) (fn := Tryd.f70) (c := bodyOf Tryd.f70) (by kernel_rfl) (by kernel_rfl) (view := false) (rvs := [.tmp 4, .tmp 5]) (by kernel_rfl) (H := fun _ => none) 200 (by kernel_rfl) ?_
 refine of_eq (q := True ∧ True ∧ True ∧ True ∧ True ∧ ((isPoly p ∧ isPiece ((d : Int), (k : Int))) ∧ True) ∧ ((qs (cnr p (d : Int).toNat (k : Int).toNat)).length + 1 ≤ 1000000 ∧ True) ∧ True ∧ True ∧ True ∧ True ∧ ((↑(chg (qs (cnr p (d : Int).toNat (k : Int).toNat))) : Int) = 0 → True ∧ True ∧ True ∧ (True ∧ true = rdB p (0 : Nat) d k ∧ True) ∧ True) ∧ (¬(↑(chg (qs (cnr p (d : Int).toNat (k : Int).toNat))) : Int) = 0 → True ∧ True ∧ True ∧ ((↑(chg (qs (cnr p (d : Int).toNat (k : Int).toNat))) : Int) = 1 → True ∧ True ∧ True ∧ True ∧ True ∧ (False ∧ true = rdB p (0 : Nat) d k ∧ True) ∧ True) ∧ (¬(↑(chg (qs (cnr p (d : Int).toNat (k : Int).toNat))) : Int) = 1 → idxPre (0 : Int) (2 : Nat) ∧ True ∧ True ∧ True ∧ ((d : Int) = 6 → True ∧ True ∧ True ∧ (True ∧ false = rdB p (0 : Nat) d k ∧ True) ∧ True) ∧ (¬(d : Int) = 6 → True ∧ idxPre (0 : Int) (2 : Nat) ∧ True ∧ inR .i64 ((d : Int) + 1) ∧ idxPre (1 : Int) (2 : Nat) ∧ True ∧ inR .i64 ((2 : Int) * (k : Int)) ∧ True ∧ False)))) (by kernel_rfl) ?_
 simp only [true_and, and_true, false_and, and_false, or_false, false_or, exists_const, exists_false, rat_num_den, rat_int, Int.toNat_natCast]
 have hq : qs (cnr p d k) = qc p d k := rfl
 rw [hq]
 have hpc := piece70 hp
 have hln := qc_length p d k
 have hpl := hp.1.2.1
 have h6 := hp.2.1
 refine ⟨⟨hp.1, hpc⟩, by omega, fun h0 => ?_, fun h0 => ⟨fun h1 => ?_, fun h1 => ⟨i02, fun _ => ?_, fun h => by omega⟩⟩⟩
 · have h0 : cgs p d k = 0 := by unfold cgs; omega
   simp [rdB, h0]
 · have h0 : cgs p d k ≠ 0 := by unfold cgs; omega
   have h1 : cgs p d k = 1 := by unfold cgs; omega
   simp [rdL, h1] at hne
 · have h0 : cgs p d k ≠ 0 := by unfold cgs; omega
   have h1 : cgs p d k ≠ 1 := by unfold cgs; omega
   simp [rdB, h0, h1]
theorem k_all : ∀ n, KV n ∧ KO n ∧ KN n
 | 0 => ⟨kV0, kO0, kN0⟩
 | n + 1 => by
   obtain ⟨h1, h2, h3⟩ := k_all n
   exact ⟨kV1 n h1 h2 h3, kO1 n h1 h2 h3, kN1 n h1 h2 h3⟩
def readB (p : List Int) : Bool := rdB p 6 0 0
def readL (p : List Int) : List PQ := rdL p 6 0 0
theorem call23 (p : List Int) (h : isPoly p) : GCall Tryd.prog gl 23 false [.sl I64 p] [] [.sl Q2 (readL p), .bool (readB p)] [] := by
 refine gcall_of (X := X [e70V 6 (k_all 6).1]) (X_ok [e70V 6 (k_all 6).1]) (f := 23) (fn := Tryd.f23) (c := bodyOf Tryd.f23) (by kernel_rfl) (by kernel_rfl) (view := false) (rvs := [.tmp 2, .tmp 3]) (by kernel_rfl) (H := fun _ => none) 80 (by kernel_rfl) ?_
 refine of_eq (q := True ∧ True ∧ True ∧ True ∧ (((∃ (d : Nat), ∃ (k : Nat), ((0 : Int), (0 : Int)) = ((d : Int), (k : Int)) ∧ pre70 (6 : Nat) d k p) ∧ (p = p ∧ [(0 : Int), (0 : Int)] = [(0 : Int), (0 : Int)] ∧ True) ∧ True) ∧ True) ∧ True ∧ True ∧ True ∧ True ∧ True ∧ (rdL p (6 : Nat) (Int.toNat (0 : Int)) (Int.toNat (0 : Int)) = readL p ∧ rdB p (6 : Nat) (Int.toNat (0 : Int)) (Int.toNat (0 : Int)) = readB p ∧ True) ∧ True) (by kernel_rfl) ?_
 simp only [true_and, and_true, false_and, and_false, or_false, false_or, exists_const, exists_false, rat_num_den, rat_int, Int.toNat_natCast]
 exact ⟨⟨0, 0, rfl, h, rfl, by omega⟩, rfl, rfl⟩
def e23 : Entry Tryd.prog gl := entry1 23 ⟨Tryd.f23, by kernel_rfl, by kernel_rfl, by kernel_rfl⟩ SI (fun p => isPoly p) false (fun p => [.sl Q2 (readL p), .bool (readB p)]) (fun _ => []) (call23)
end Go.Am.Bern

/- Bern: readings that are checked. -/
namespace Go.Am.Bern
open Go Go.Am Go.Proofs
def fr' (x : PQ) : Int := x.2 * 2 ^ (6 - x.1).toNat
def gapz (p : List Int) (a b : Int) : Prop := ∀ j : Nat, j < 64 → a ≤ j → (j : Int) < b → cgs p 6 j = 0
instance (p : List Int) (a b : Int) : Decidable (gapz p a b) := inferInstanceAs (Decidable (∀ j : Nat, j < 64 → _))
def rdR (p : List Int) : Int → List PQ → Prop
 | a, [] => a ≤ 64 ∧ gapz p a 64
 | a, x :: l => isPiece x ∧ cgs p x.1.toNat x.2.toNat = 1 ∧ a ≤ fr' x ∧ gapz p a (fr' x) ∧ rdR p (fr' x + 2 ^ (6 - x.1).toNat) l
instance rdR_dec (p : List Int) : ∀ (a : Int) (l : List PQ), Decidable (rdR p a l)
 | _, [] => by unfold rdR; infer_instance
 | a, x :: l => by unfold rdR; have := rdR_dec p (fr' x + 2 ^ (6 - x.1).toNat) l; infer_instance
theorem rdR_cons {p : List Int} {a : Int} {x : PQ} {l : List PQ} : rdR p a (x :: l) ↔ isPiece x ∧ cgs p x.1.toNat x.2.toNat = 1 ∧ a ≤ fr' x ∧ gapz p a (fr' x) ∧ rdR p (fr' x + 2 ^ (6 - x.1).toNat) l := Iff.rfl
noncomputable def L24_0 : Code := lp (bodyOf Tryd.f24) 0
noncomputable def L24_2 : Code := lp (bodyOf Tryd.f24) 2
/-- Up to where there are no changes. -/
def to24 (l : List PQ) (i : Nat) : Int := if i < l.length then fr' (l.getD i (0, 0)) else 64
def sj24 (p : List Int) (l : List PQ) (i : Nat) (c : Int) : St := ⟨.sl I64 p :: .sl Q2 l :: .dead :: .dead :: .dead :: .int .i64 c :: .int .i64 i :: .int .i64 (to24 l i) :: dd 65, []⟩
def ij24 (p : List Int) (l : List PQ) (i : Nat) (a : Int) (c : Int) : Prop := a ≤ c ∧ (c ≤ a ∨ c ≤ to24 l i) ∧ gapz p a c
def ej24 (p : List Int) (l : List PQ) (i : Nat) (a : Int) : List (List Nat × Ex) := [([0, 1, 5, 6, 7], ⟨2, Int, fun c => ij24 p l i a c ∧ to24 l i ≤ c, sj24 p l i⟩)]
def st24 (p : List Int) (l : List PQ) (s : Nat × Int) : St := ⟨.sl I64 p :: .sl Q2 l :: .dead :: .dead :: .dead :: .int .i64 s.2 :: .int .i64 s.1 :: dd 66, []⟩
def inv24 (p : List Int) (l : List PQ) (s : Nat × Int) : Prop := (s.1 ≤ l.length ∧ 0 ≤ s.2 ∧ s.2 ≤ 64 ∧ (rdR p s.2 (l.drop s.1) ↔ rdR p 0 l)) ∨ (s.1 = l.length + 1 ∧ rdR p 0 l)
def ex24 (p : List Int) (l : List PQ) : List (List Nat × Ex) := [([], ⟨0, Unit, fun _ => rdR p 0 l, fun _ => ⟨dd 73, []⟩⟩)]
noncomputable def Hj24 (p : List Int) (l : List PQ) (i : Nat) (a : Int) : Nat → Option Hint := fun _ => some ⟨chk 0 [0, 1, 5, 6, 7] (ij24 p l i a) (sj24 p l i), (ej24 p l i a).map (·.2)⟩
noncomputable def H24 (p : List Int) (l : List PQ) : Nat → Option Hint := fun _ => some ⟨chk 0 [0, 1, 5, 6] (inv24 p l) (st24 p l), (ex24 p l).map (·.2)⟩
noncomputable abbrev E24 : EL := [e14, e16, e33]
noncomputable abbrev R24 (p : List Int) (l : List PQ) : Exit → St → Prop := RetR (X E24) true false [.tmp 4] [.bool (decide (rdR p 0 l))] []
theorem loop24_2 (p : List Int) (l : List PQ) (hp : isPoly p) (i : Nat) (a : Int) (ha : 0 ≤ a) (hf : to24 l i ≤ 64) (hbad : ∀ j : Nat, a ≤ j → (j : Int) < to24 l i → cgs p 6 j ≠ 0 → ¬ rdR p 0 l) :
   LoopOK (X E24) L24_2 ⟨chk 0 [0, 1, 5, 6, 7] (ij24 p l i a) (sj24 p l i), (ej24 p l i a).map (·.2)⟩ (bodyR (X E24).m0 (ex24 p l) (R24 p l)) := by
 refine loop_ok (X_ok E24) (H := fun _ _ => none) [0, 1, 5, 6, 7] (ij24 p l i a) (sj24 p l i) (fun c => (64 - c).toNat) (ej24 p l i a) 120 fun (c : Int) hc => ?_
 refine of_eq (q := True ∧ True ∧ True ∧ (c < to24 l i → True ∧ True ∧ True ∧ ((isPoly p ∧ isPiece ((6 : Int), c)) ∧ True) ∧ ((qs (cnr p (Int.toNat (6 : Int)) c.toNat)).length + 1 ≤ 1000000 ∧ True) ∧ True ∧ (¬(↑(chg (qs (cnr p (Int.toNat (6 : Int)) c.toNat))) : Int) = 0 → True ∧ True ∧ (false = decide (rdR p (0 : Int) l) ∧ True) ∧ True) ∧ (¬¬(↑(chg (qs (cnr p (Int.toNat (6 : Int)) c.toNat))) : Int) = 0 → True ∧ inR .i64 (c + 1) ∧ True ∧ ∃ (y : Int), (ij24 p l i a y ∧ ((64 : Int) - y).toNat < ((64 : Int) - c).toNat) ∧ (p = p ∧ l = l ∧ c + 1 = y ∧ (i : Int) = (i : Int) ∧ to24 l i = to24 l i ∧ True) ∧ True)) ∧ (¬c < to24 l i → ∃ (y : Int), (ij24 p l i a y ∧ to24 l i ≤ y) ∧ (p = p ∧ l = l ∧ c = y ∧ (i : Int) = (i : Int) ∧ to24 l i = to24 l i ∧ True) ∧ True)) (by kernel_rfl) ?_
 simp only [true_and, and_true, false_and, and_false, or_false, false_or, exists_const, exists_false, rat_num_den, rat_int, Int.toNat_natCast]
 obtain ⟨h1, h2, h3⟩ := hc
 have h6 : Int.toNat 6 = 6 := rfl
 rw [h6]
 have hq : qs (cnr p 6 c.toNat) = qc p 6 c.toNat := rfl
 rw [hq]
 have hln := qc_length p 6 c.toNat
 have hpl := hp.2.1
 refine ⟨fun hlt => ?_, fun hge => ⟨c, ⟨⟨h1, h2, h3⟩, by omega⟩, rfl⟩⟩
 have hc : ((c.toNat : Nat) : Int) = c := by omega
 refine ⟨⟨hp, ?_⟩, by omega, fun hz => dff (hbad c.toNat (by omega) (by omega) (by unfold cgs; omega)), fun hz => ⟨by simp only [inR]; omega, c + 1, ⟨⟨by omega, .inr (by omega), fun j hj g1 g2 => ?_⟩, by omega⟩, rfl⟩⟩
 · unfold isPiece
   dsimp only
   rw [h6]
   omega
 · by_cases e : (j : Int) < c
   · exact h3 j hj g1 e
   · have : j = c.toNat := by omega
     rw [this]; unfold cgs; omega
theorem to24_piece {l : List PQ} {i : Nat} (hi : i < l.length) : to24 l i = fr' (l.getD i (0, 0)) := by unfold to24; rw [if_pos hi]
theorem to24_end {l : List PQ} {i : Nat} (hi : ¬ i < l.length) : to24 l i = 64 := by unfold to24; rw [if_neg hi]
theorem bad24 {p : List Int} {l : List PQ} {i : Nat} {a : Int} (h : rdR p a (l.drop i) ↔ rdR p 0 l) (hi : i ≤ l.length) (hf : to24 l i ≤ 64) : ∀ j : Nat, a ≤ j → (j : Int) < to24 l i → cgs p 6 j ≠ 0 → ¬ rdR p 0 l := by
 intro j h1 h2 h3 hr
 have hr := h.mpr hr
 by_cases hlt : i < l.length
 · rw [drop_getD (d := (0, 0)) hlt, rdR_cons] at hr
   rw [to24_piece hlt] at h2
   exact h3 (hr.2.2.2.1 j (by rw [to24_piece hlt] at hf; omega) h1 h2)
 · rw [List.drop_of_length_le (by omega)] at hr
   rw [to24_end hlt] at h2
   exact h3 (hr.2 j (by omega) h1 h2)
theorem fr_le {x : PQ} (h : isPiece x) : 0 ≤ fr' x ∧ fr' x + 2 ^ (6 - x.1).toNat ≤ 64 := ⟨(piece_at h).1, (piece_at h).2.1⟩
theorem loop24 (p : List Int) (l : List PQ) (hp : isPoly p) (hl : l.length < 1000000) : LoopOK (X E24) L24_0 ⟨chk 0 [0, 1, 5, 6] (inv24 p l) (st24 p l), (ex24 p l).map (·.2)⟩ (R24 p l) := by
 refine loop_ok (X_ok E24) (H := fun s => Hj24 p l s.1 s.2) [0, 1, 5, 6] (inv24 p l) (st24 p l) (fun s => l.length + 1 - s.1) (ex24 p l) 150 fun (s : Nat × Int) hs => ?_
 have hL := loop24_2 p l hp s.1 s.2
 refine of_eq (q := True ∧ True ∧ True ∧ True ∧ ((s.fst : Int) ≤ (l.length : Int) → True ∧ True ∧ True ∧ True ∧ True ∧ ((s.fst : Int) < (l.length : Int) → True ∧ True ∧ idxPre (s.fst : Int) l.length ∧ True ∧ (True ∧ True) ∧ True ∧ True ∧ ((!decide (isPiece ((l.getD s.fst (0, 0)).fst, (l.getD s.fst (0, 0)).snd))) = true → True ∧ True ∧ True ∧ (false = decide (rdR p (0 : Int) l) ∧ True) ∧ True) ∧ ((!decide (isPiece ((l.getD s.fst (0, 0)).fst, (l.getD s.fst (0, 0)).snd))) = false → True ∧ True ∧ True ∧ idxPre (s.fst : Int) l.length ∧ True ∧ ((isPoly p ∧ isPiece ((l.getD s.fst (0, 0)).fst, (l.getD s.fst (0, 0)).snd)) ∧ True) ∧ ((qs (cnr p (Int.toNat (l.getD s.fst (0, 0)).fst) (Int.toNat (l.getD s.fst (0, 0)).snd))).length + 1 ≤ 1000000 ∧ True) ∧ True ∧ True ∧ (¬(↑(chg (qs (cnr p (Int.toNat (l.getD s.fst (0, 0)).fst) (Int.toNat (l.getD s.fst (0, 0)).snd)))) : Int) = 1 → True ∧ True ∧ (false = decide (rdR p (0 : Int) l) ∧ True) ∧ True) ∧ (¬¬(↑(chg (qs (cnr p (Int.toNat (l.getD s.fst (0, 0)).fst) (Int.toNat (l.getD s.fst (0, 0)).snd)))) : Int) = 1 → True ∧ True ∧ idxPre (s.fst : Int) l.length ∧ idxPre (1 : Int) (2 : Nat) ∧ True ∧ True ∧ True ∧ idxPre (s.fst : Int) l.length ∧ idxPre (0 : Int) (2 : Nat) ∧ True ∧ inR .i64 ((6 : Int) - (l.getD s.fst (0, 0)).fst) ∧ (((0 : Int) ≤ 6 - (l.getD s.fst (0, 0)).fst ∧ (6 : Int) - (l.getD s.fst (0, 0)).fst < bitsOf .i64) ∧ (-9223372036854775808 : Int) ≤ (l.getD s.fst (0, 0)).snd * 2 ^ ((6 : Int) - (l.getD s.fst (0, 0)).fst).toNat ∧ (l.getD s.fst (0, 0)).snd * 2 ^ ((6 : Int) - (l.getD s.fst (0, 0)).fst).toNat ≤ 9223372036854775807) ∧ True ∧ LoopOK (X E24) L24_2 { J := chk (0 : Nat) [(0 : Nat), (1 : Nat), (5 : Nat), (6 : Nat), (7 : Nat)] (ij24 p l s.fst s.snd) (sj24 p l s.fst), exits := List.map (fun (x : List Nat × Ex) => x.snd) (ej24 p l s.fst s.snd) } (bodyR (X E24).m0 (ex24 p l) (R24 p l)) ∧ (∃ (y : Int), ij24 p l s.fst s.snd y ∧ (p = p ∧ l = l ∧ s.snd = y ∧ (s.fst : Int) = (s.fst : Int) ∧ (l.getD s.fst (0, 0)).snd * 2 ^ ((6 : Int) - (l.getD s.fst (0, 0)).fst).toNat = to24 l s.fst ∧ True) ∧ True) ∧ (∀ (y : Int), ij24 p l s.fst s.snd y ∧ to24 l s.fst ≤ y → True ∧ True ∧ True ∧ (¬y = to24 l s.fst → True ∧ True ∧ (false = decide (rdR p (0 : Int) l) ∧ True) ∧ True) ∧ (¬¬y = to24 l s.fst → True ∧ True ∧ True ∧ True ∧ ((s.fst : Int) < (l.length : Int) → True ∧ True ∧ True ∧ idxPre (s.fst : Int) l.length ∧ idxPre (0 : Int) (2 : Nat) ∧ True ∧ inR .i64 ((6 : Int) - (l.getD s.fst (0, 0)).fst) ∧ (((0 : Int) ≤ 6 - (l.getD s.fst (0, 0)).fst ∧ (6 : Int) - (l.getD s.fst (0, 0)).fst < bitsOf .i64) ∧ (-9223372036854775808 : Int) ≤ 1 * 2 ^ ((6 : Int) - (l.getD s.fst (0, 0)).fst).toNat ∧ (1 : Int) * 2 ^ ((6 : Int) - (l.getD s.fst (0, 0)).fst).toNat ≤ 9223372036854775807) ∧ inR .i64 (y + 1 * 2 ^ ((6 : Int) - (l.getD s.fst (0, 0)).fst).toNat) ∧ True ∧ True ∧ inR .i64 ((s.fst : Int) + 1) ∧ True ∧ ∃ (y_1 : Nat × Int), (inv24 p l y_1 ∧ l.length + 1 - y_1.fst < l.length + 1 - s.fst) ∧ (p = p ∧ l = l ∧ y + 1 * 2 ^ ((6 : Int) - (l.getD s.fst (0, 0)).fst).toNat = y_1.snd ∧ (s.fst : Int) + 1 = (y_1.fst : Int) ∧ True) ∧ True) ∧ (¬(s.fst : Int) < (l.length : Int) → True ∧ inR .i64 ((s.fst : Int) + 1) ∧ True ∧ ∃ (y_1 : Nat × Int), (inv24 p l y_1 ∧ l.length + 1 - y_1.fst < l.length + 1 - s.fst) ∧ (p = p ∧ l = l ∧ y = y_1.snd ∧ (s.fst : Int) + 1 = (y_1.fst : Int) ∧ True) ∧ True))) ∧ True))) ∧ (¬(s.fst : Int) < (l.length : Int) → LoopOK (X E24) L24_2 { J := chk (0 : Nat) [(0 : Nat), (1 : Nat), (5 : Nat), (6 : Nat), (7 : Nat)] (ij24 p l s.fst s.snd) (sj24 p l s.fst), exits := List.map (fun (x : List Nat × Ex) => x.snd) (ej24 p l s.fst s.snd) } (bodyR (X E24).m0 (ex24 p l) (R24 p l)) ∧ (∃ (y : Int), ij24 p l s.fst s.snd y ∧ (p = p ∧ l = l ∧ s.snd = y ∧ (s.fst : Int) = (s.fst : Int) ∧ (64 : Int) = to24 l s.fst ∧ True) ∧ True) ∧ (∀ (y : Int), ij24 p l s.fst s.snd y ∧ to24 l s.fst ≤ y → True ∧ True ∧ True ∧ (¬y = to24 l s.fst → True ∧ True ∧ (false = decide (rdR p (0 : Int) l) ∧ True) ∧ True) ∧ (¬¬y = to24 l s.fst → True ∧ True ∧ True ∧ True ∧ ((s.fst : Int) < (l.length : Int) → True ∧ True ∧ True ∧ idxPre (s.fst : Int) l.length ∧ idxPre (0 : Int) (2 : Nat) ∧ True ∧ inR .i64 ((6 : Int) - (l.getD s.fst (0, 0)).fst) ∧ (((0 : Int) ≤ 6 - (l.getD s.fst (0, 0)).fst ∧ (6 : Int) - (l.getD s.fst (0, 0)).fst < bitsOf .i64) ∧ (-9223372036854775808 : Int) ≤ 1 * 2 ^ ((6 : Int) - (l.getD s.fst (0, 0)).fst).toNat ∧ (1 : Int) * 2 ^ ((6 : Int) - (l.getD s.fst (0, 0)).fst).toNat ≤ 9223372036854775807) ∧ inR .i64 (y + 1 * 2 ^ ((6 : Int) - (l.getD s.fst (0, 0)).fst).toNat) ∧ True ∧ True ∧ inR .i64 ((s.fst : Int) + 1) ∧ True ∧ ∃ (y_1 : Nat × Int), (inv24 p l y_1 ∧ l.length + 1 - y_1.fst < l.length + 1 - s.fst) ∧ (p = p ∧ l = l ∧ y + 1 * 2 ^ ((6 : Int) - (l.getD s.fst (0, 0)).fst).toNat = y_1.snd ∧ (s.fst : Int) + 1 = (y_1.fst : Int) ∧ True) ∧ True) ∧ (¬(s.fst : Int) < (l.length : Int) → True ∧ inR .i64 ((s.fst : Int) + 1) ∧ True ∧ ∃ (y_1 : Nat × Int), (inv24 p l y_1 ∧ l.length + 1 - y_1.fst < l.length + 1 - s.fst) ∧ (p = p ∧ l = l ∧ y = y_1.snd ∧ (s.fst : Int) + 1 = (y_1.fst : Int) ∧ True) ∧ True))) ∧ True)) ∧ (¬(s.fst : Int) ≤ (l.length : Int) → ∃ (y : Unit), rdR p (0 : Int) l ∧ True ∧ True)) (by kernel_rfl) ?_
 simp only [true_and, and_true, false_and, and_false, or_false, false_or, exists_const, exists_false, rat_num_den, rat_int, Int.toNat_natCast]
 obtain ⟨i, a⟩ := s
 dsimp only at *
 rcases hs with ⟨h1, h2, h3, h4⟩ | ⟨h1, h2⟩
 case inr =>
   dsimp only at *
   exact ⟨fun h => by omega, fun _ => h2⟩
 dsimp only at *
 refine ⟨fun _ => ⟨fun hi => ?_, fun hi => ?_⟩, fun h => by omega⟩
 · have hi : i < l.length := by omega
   have hd : l.drop i = l.getD i (0, 0) :: l.drop (i + 1) := drop_getD hi
   have ht := to24_piece hi
   have hh := h4
   rw [hd, rdR_cons] at h4
   rw [ht]
   have e1 : ((l.getD i (0, 0)).1, (l.getD i (0, 0)).2) = l.getD i (0, 0) := rfl
   rw [e1]
   have hq : qs (cnr p (Int.toNat (l.getD i (0, 0)).1) (Int.toNat (l.getD i (0, 0)).2)) = qc p (Int.toNat (l.getD i (0, 0)).1) (Int.toNat (l.getD i (0, 0)).2) := rfl
   rw [hq]
   have hln := qc_length p (Int.toNat (l.getD i (0, 0)).1) (Int.toNat (l.getD i (0, 0)).2)
   have hpl := hp.2.1
   have hcg : cgs p (Int.toNat (l.getD i (0, 0)).1) (Int.toNat (l.getD i (0, 0)).2) = chg (qc p (Int.toNat (l.getD i (0, 0)).1) (Int.toNat (l.getD i (0, 0)).2)) := rfl
   have hfr : fr' (l.getD i (0, 0)) = (l.getD i (0, 0)).2 * 2 ^ (6 - (l.getD i (0, 0)).1).toNat := rfl
   refine ⟨idx_nat hi, fun g => dff fun hr => ?_, fun g => ?_⟩
   · have := (h4.mpr hr).1
     have g : ¬ isPiece (l.getD i (0, 0)) := by simpa only [Bool.not_eq_true', decide_eq_false_iff_not] using g
     exact g this
   · have g : isPiece (l.getD i (0, 0)) := by simpa using g
     have hb := piece_at g
     have hb2 := fr_le g
     have hLx := hL h2 (by rw [ht]; omega) (bad24 hh h1 (by rw [ht]; omega))
     generalize l.getD i (0, 0) = x at *
     obtain ⟨p1, p2, p3, p4⟩ := g
     refine ⟨idx_nat hi, ⟨hp, ⟨p1, p2, p3, p4⟩⟩, by omega, fun hz => dff fun hr => hz (by have := (h4.mpr hr).2.1; omega), fun hz => ⟨idx_nat hi, i12, idx_nat hi, i02, by simp only [inR]; omega, ⟨⟨by omega, by simp only [bitsOf]; omega⟩, by omega, by omega⟩, hLx, ⟨a, ⟨by omega, .inl (by omega), fun j _ g1 g2 => by omega⟩, rfl, hfr.symm⟩, fun y hy => ?_⟩⟩
     obtain ⟨⟨y1, y2, y3⟩, y4⟩ := hy
     rw [ht] at y2
     rw [Int.one_mul]
     refine ⟨fun hne => dff fun hr => ?_, fun heq => ⟨fun _ => ⟨idx_nat hi, i02, by simp only [inR]; omega, ⟨⟨by omega, by simp only [bitsOf]; omega⟩, by omega, by omega⟩, by simp only [inR]; omega, by simp only [inR]; omega, (i + 1, y + 2 ^ (6 - x.1).toNat), ⟨.inl ⟨hi, by dsimp only; omega, by dsimp only; omega, ?_⟩, by dsimp only; omega⟩, by simp⟩, fun h => absurd (by omega) h⟩⟩
     · have := (h4.mpr hr).2.2.1
       omega
     · have heq : y = fr' x := by omega
       subst heq
       dsimp only
       rw [← h4]
       exact ⟨fun hr => ⟨⟨p1, p2, p3, p4⟩, by omega, y1, y3, hr⟩, fun hr => hr.2.2.2.2⟩
 · have hi' : ¬ i < l.length := by omega
   have ht := to24_end hi'
   have hLx := hL h2 (by omega) (bad24 h4 h1 (by omega))
   rw [ht]
   refine ⟨hLx, ⟨a, ⟨by omega, .inl (by omega), fun j _ g1 g2 => by omega⟩, rfl, rfl⟩, fun y hy => ?_⟩
   obtain ⟨⟨y1, y2, y3⟩, y4⟩ := hy
   rw [ht] at y2
   rw [List.drop_of_length_le (by omega)] at h4
   refine ⟨fun hne => dff fun hr => ?_, fun heq => ⟨fun h => absurd (by omega) hi', fun _ => ⟨by simp only [inR]; omega, (i + 1, y), ⟨.inr ⟨by dsimp only; omega, ?_⟩, by dsimp only; omega⟩, by simp⟩⟩⟩
   · have := (h4.mpr hr).1
     omega
   · have heq : y = 64 := by omega
     subst heq
     exact h4.mp ⟨by omega, y3⟩
theorem call24 (p : List Int) (l : List PQ) (h : isPoly p ∧ l.length < 1000000) : GCall Tryd.prog gl 24 true [.sl I64 p, .sl Q2 l] [] [.bool (decide (rdR p 0 l))] [] := by
 refine gcall_of (X := (X E24)) ((X_ok E24)) (f := 24) (fn := Tryd.f24) (c := bodyOf Tryd.f24) (by kernel_rfl) (by kernel_rfl) (view := false) (rvs := [.tmp 4]) (by kernel_rfl) (H := (H24 p l)) 80 (by kernel_rfl) ?_
 have hL := loop24 p l h.1 h.2
 refine of_eq (q := True ∧ True ∧ True ∧ LoopOK (X E24) L24_0 { J := chk (0 : Nat) [(0 : Nat), (1 : Nat), (5 : Nat), (6 : Nat)] (inv24 p l) (st24 p l), exits := List.map (fun (x : List Nat × Ex) => x.snd) (ex24 p l) } (R24 p l) ∧ (∃ (y : Nat × Int), inv24 p l y ∧ (p = p ∧ l = l ∧ (0 : Int) = y.snd ∧ (0 : Int) = (y.fst : Int) ∧ True) ∧ True) ∧ (∀ (y : Unit), rdR p (0 : Int) l → True ∧ True ∧ (true = decide (rdR p (0 : Int) l) ∧ True) ∧ True) ∧ True) (by kernel_rfl) ?_
 simp only [true_and, and_true, false_and, and_false, or_false, false_or, exists_const, exists_false, rat_num_den, rat_int, Int.toNat_natCast]
 exact ⟨hL, ⟨(0, 0), .inl ⟨by dsimp only; omega, by dsimp only; omega, by dsimp only; omega, by simp⟩, by simp⟩, fun _ h => dtt h⟩
end Go.Am.Bern

/- Bern: awake. -/
namespace Go.Am.Bern
open Go Go.Am Go.Proofs
theorem call18 : GCall Tryd.prog gl 18 true [] [] [.tt] [] := by
 have f1 : cornersE [1, -3, 3] (0, 0) = 0 := by kernel_rfl
 have f2 : (cornersR [1, -3, 3] (0, 0)).length = 3 := by kernel_rfl
 have f3 : errOf [1, -3, 3] = 0 := by kernel_rfl
 have f4 : (posK [1, -3, 3]).length = 2 := by kernel_rfl
 have f5 : isPoly [1, -3, 3] := by decide
 have f6 : errOf [-1, 3] = 0 := by kernel_rfl
 have f7 : low29 [-1, 3] = (0, 1) := by kernel_rfl
 have f8 : rootsE [1, -5, 5] = 0 := by kernel_rfl
 have f9 : (rootsP [1, -5, 5]).length = 2 := by kernel_rfl
 have f10 : (if given [((1 : Int), (1 : Int)), (-1, 2), (1, 1)] 7 then (0 : Int) else 1) = 0 := by kernel_rfl
 refine gcall_of (X := (X [e13, e26, e29, e21, e37, e15, e28])) ((X_ok _)) (f := 18) (fn := Tryd.f18) (c := bodyOf Tryd.f18) (by kernel_rfl) (by kernel_rfl) (view := false) (rvs := [.tmp 0]) (by kernel_rfl) (H := fun _ => none) 200 (by kernel_rfl) ?_
 refine of_eq (q := True ∧ True ∧ True ∧ ([(1 : Int), (-3 : Int), (3 : Int)].length + 1 ≤ 1000000 ∧ True) ∧ True ∧ True ∧ True ∧ True ∧ True ∧ True ∧ ([(1 : Int), (-3 : Int), (3 : Int)].length + 1 ≤ 1000000 ∧ True) ∧ True ∧ True ∧ True ∧ True ∧ True ∧ True ∧ True ∧ True ∧ ([(-1 : Int), (3 : Int)].length + 1 ≤ 1000000 ∧ True) ∧ True ∧ True ∧ True ∧ True ∧ True ∧ True ∧ True ∧ True ∧ True ∧ ([(1 : Int), (-5 : Int), (5 : Int)].length + 1 ≤ 1000000 ∧ True) ∧ True ∧ True ∧ True ∧ True ∧ True ∧ True ∧ True ∧ True ∧ True ∧ ([((1 : Int), (1 : Int)), ((-1 : Int), (2 : Int)), ((1 : Int), (1 : Int))].length + 1 ≤ 1000000 ∧ True) ∧ True ∧ True ∧ True ∧ True ∧ True ∧ True ∧ True ∧ True ∧ (cornersE [(1 : Int), (-3 : Int), (3 : Int)] ((0 : Int), (0 : Int)) = 0 → True ∧ True ∧ True ∧ True ∧ True ∧ ((cornersR [(1 : Int), (-3 : Int), (3 : Int)] ((0 : Int), (0 : Int))).length + 1 ≤ 1000000 ∧ True) ∧ True ∧ True ∧ (true = true → True ∧ True ∧ True ∧ True ∧ (errOf [(1 : Int), (-3 : Int), (3 : Int)] = 0 → True ∧ True ∧ True ∧ (true = true → True ∧ True ∧ ((isPoly [(1 : Int), (-3 : Int), (3 : Int)] ∧ (posK [(1 : Int), (-3 : Int), (3 : Int)]).length < 1000000) ∧ True) ∧ True ∧ True ∧ (true = true → True ∧ True ∧ True ∧ True ∧ (errOf [(-1 : Int), (3 : Int)] = 0 → True ∧ True ∧ True ∧ (true = true → True ∧ True ∧ True ∧ True ∧ True ∧ (((low29 [(-1 : Int), (3 : Int)]).fst, (low29 [(-1 : Int), (3 : Int)]).snd) = ((0 : Int), (1 : Int)) → True ∧ True ∧ True ∧ True ∧ (rootsE [(1 : Int), (-5 : Int), (5 : Int)] = 0 → True ∧ True ∧ True ∧ True ∧ ((↑(rootsP [(1 : Int), (-5 : Int), (5 : Int)]).length : Int) = 2 → True ∧ True ∧ True ∧ True ∧ ((if given [((1 : Int), (1 : Int)), ((-1 : Int), (2 : Int)), ((1 : Int), (1 : Int))] (7 : Int) then (0 : Int) else (1 : Int)) = 0 → True ∧ True ∧ True ∧ True ∧ True ∧ (true = true ∧ True) ∧ True) ∧ (¬(if given [((1 : Int), (1 : Int)), ((-1 : Int), (2 : Int)), ((1 : Int), (1 : Int))] (7 : Int) then (0 : Int) else (1 : Int)) = 0 → True ∧ True ∧ True ∧ (false = true ∧ True) ∧ True)) ∧ (¬(↑(rootsP [(1 : Int), (-5 : Int), (5 : Int)]).length : Int) = 2 → True ∧ True ∧ True ∧ True ∧ True ∧ (false = true ∧ True) ∧ True)) ∧ (¬rootsE [(1 : Int), (-5 : Int), (5 : Int)] = 0 → True ∧ True ∧ True ∧ True ∧ True ∧ True ∧ True ∧ (false = true ∧ True) ∧ True)) ∧ (¬((low29 [(-1 : Int), (3 : Int)]).fst, (low29 [(-1 : Int), (3 : Int)]).snd) = ((0 : Int), (1 : Int)) → True ∧ True ∧ True ∧ True ∧ True ∧ True ∧ True ∧ True ∧ True ∧ (false = true ∧ True) ∧ True)) ∧ (true = false → True ∧ True ∧ True ∧ True ∧ True ∧ True ∧ True ∧ True ∧ True ∧ True ∧ True ∧ (false = true ∧ True) ∧ True)) ∧ (¬errOf [(-1 : Int), (3 : Int)] = 0 → True ∧ True ∧ True ∧ True ∧ True ∧ True ∧ True ∧ True ∧ True ∧ True ∧ True ∧ True ∧ True ∧ (false = true ∧ True) ∧ True)) ∧ (true = false → True ∧ True ∧ True ∧ True ∧ True ∧ True ∧ True ∧ True ∧ True ∧ True ∧ True ∧ True ∧ True ∧ True ∧ True ∧ (false = true ∧ True) ∧ True)) ∧ (true = false → True ∧ True ∧ True ∧ True ∧ True ∧ True ∧ True ∧ True ∧ True ∧ True ∧ True ∧ True ∧ True ∧ True ∧ True ∧ True ∧ True ∧ (false = true ∧ True) ∧ True)) ∧ (¬errOf [(1 : Int), (-3 : Int), (3 : Int)] = 0 → True ∧ True ∧ True ∧ True ∧ True ∧ True ∧ True ∧ True ∧ True ∧ True ∧ True ∧ True ∧ True ∧ True ∧ True ∧ True ∧ True ∧ True ∧ True ∧ (false = true ∧ True) ∧ True)) ∧ (true = false → True ∧ True ∧ True ∧ True ∧ True ∧ True ∧ True ∧ True ∧ True ∧ True ∧ True ∧ True ∧ True ∧ True ∧ True ∧ True ∧ True ∧ True ∧ True ∧ True ∧ True ∧ (false = true ∧ True) ∧ True)) ∧ (¬cornersE [(1 : Int), (-3 : Int), (3 : Int)] ((0 : Int), (0 : Int)) = 0 → True ∧ True ∧ True ∧ True ∧ True ∧ True ∧ True ∧ True ∧ True ∧ True ∧ True ∧ True ∧ True ∧ True ∧ True ∧ True ∧ True ∧ True ∧ True ∧ True ∧ True ∧ True ∧ True ∧ (false = true ∧ True) ∧ True)) (by kernel_rfl) ?_
 simp only [f1, f2, f3, f4, f6, f7, f8, f9, f10]
 simp [f5]
 first | done | kernel_rfl
def e18 : Entry Tryd.prog gl where
 f := 18
 lend := false
 en := ⟨Tryd.f18, by kernel_rfl, by kernel_rfl, by kernel_rfl⟩
 go := fun args ob0 => match args, ob0 with
   | [], [] => some (True, true, [.tt], [])
   | _, _ => none
 ok := by
   intro args ob0 p s r o h hp
   split at h <;> try (cases h; done)
   injection h with h; injection h with h1 h2; injection h2 with h2 h3; injection h3 with h3 h4
   subst h1 h2 h3 h4
   exact call18
theorem call12v (l : List Int) (hl : l.length < 1000000000000000) : GCall Tryd.prog gl 12 true [.sl I64 l] [] [.sl I64 (tmL l)] [] := by
 refine gcall_of (X := (Xw [] hs12)) ((Xw_ok [] hs12)) (f := 12) (fn := Tryd.f12) (c := bodyOf Tryd.f12) (by kernel_rfl) (by kernel_rfl) (view := true) (rvs := [.tmp 2]) (by kernel_rfl) (H := (H12 l)) 80 (by kernel_rfl) ?_
 have hL := loop12 l hl
 refine of_eq (q := True ∧ True ∧ True ∧ True ∧ LoopOK (Xw [] hs12) L12_0 { J := chk (0 : Nat) [(0 : Nat), (3 : Nat), (4 : Nat)] (inv12 l) (st12 l), exits := List.map (fun (x : List Nat × Ex) => x.snd) (ex12 l) } (RetR (Xw [] hs12) true true [ResultVar.tmp (2 : Tmp)] [AV.sl I64 (tmL l)] []) ∧ (∃ (y : Nat), inv12 l y ∧ (l = l ∧ True ∧ (0 : Int) = (y : Int) ∧ True) ∧ ([] : List Int) = List.map tm (List.take y l) ∧ True) ∧ (∀ (y : Unit), True → True ∧ True ∧ True ∧ ((↑(List.map tm (List.take (7 : Nat) l)).length : Int) = 0 → True ∧ True ∧ sumPre (List.map tm (List.take (7 : Nat) l)).length [(1 : Int)].length (nat_lit 8) ∧ True ∧ True ∧ True ∧ True ∧ (List.map tm (List.take (7 : Nat) l) ++ [(1 : Int)] = tmL l ∧ True) ∧ True) ∧ (¬(↑(List.map tm (List.take (7 : Nat) l)).length : Int) = 0 → True ∧ True ∧ True ∧ (List.map tm (List.take (7 : Nat) l) = tmL l ∧ True) ∧ True)) ∧ True) (by kernel_rfl) ?_
 simp only [true_and, and_true, false_and, and_false, or_false, false_or, exists_const, exists_false, rat_num_den, rat_int, Int.toNat_natCast]
 refine ⟨hL _, ⟨0, ⟨by omega, by omega⟩, rfl, by simp⟩, fun _ _ => ⟨fun h => ?_, fun h => ?_⟩⟩
 · have : l = [] := by
     have h : (List.map tm (List.take 7 l)).length = 0 := by omega
     rw [List.length_map, List.length_take] at h
     exact List.length_eq_zero_iff.mp (by omega)
   subst this
   exact ⟨by unfold sumPre; simp, by simp [tmL]; try rfl⟩
 · have : l ≠ [] := fun e => by subst e; simp at h
   simp [tmL, this]
def e12v : Entry Tryd.prog gl := entry1 12 ⟨Tryd.f12, by kernel_rfl, by kernel_rfl, by kernel_rfl⟩ SI (fun l => l.length < 1000000000000000) true (fun l => [.sl I64 (tmL l)]) (fun _ => []) call12v
end Go.Am.Bern

/- Bern: the law BernChecks. -/
namespace Go.Am
open Go
/-- Bools that are known. -/
def litB : AV → AV
 | .bool true => .tt
 | .bool false => .ff
 | a => a
theorem TR.litB {E : Env} {I : Nat → Option Inf} {F : Nat → Prop} {w : World} : ∀ {x : AV} {u : Value}, TR E I F w x u → TR E I F w (litB x) u
 | .bool true, _, h => h
 | .bool false, _, h => h
 | _, _, h => by
   unfold Am.litB
   split <;> exact h
theorem GCall.lit {P : Program} {gl : Nat → Option ((t : Ty) × t.D)} {f : FuncId} {sep : Bool} {args res : List AV} {ob0 ob1 : List Ob} (h : GCall P gl f sep args ob0 res ob1) : GCall P gl f sep args ob0 (res.map litB) ob1 := by
 intro E F F0 w a h1 h2 h3 hr
 refine (h E F F0 w a h1 h2 h3 hr).mono ?_
 rintro e w' ⟨E', F', a', he, R⟩
 refine ⟨E', F', a', he, R.retm (by simp) fun i y hy => ?_⟩
 rw [List.getElem?_map] at hy
 cases hx : res[i]? with
 | none => rw [hx] at hy; cases hy
 | some x =>
   rw [hx] at hy
   injection hy with hy
   subst hy
   exact ⟨x, rfl, fun u hu => TR.litB hu⟩
end Go.Am
namespace Go.Am.Bern
open Go Go.Am Go.Proofs
def yesP (p : List Int) : Prop := p.length < 1000000 ∧ isPoly p
theorem ye19 (p : List Int) (h : yesP p) : GCall Tryd.prog gl 19 true [.sl I64 p] [] [.bool (decide (isPoly p ∧ plainP p)), .int .i64 0] [] := by
 have := call19 p h.1
 rwa [show errOf p = 0 by simp [errOf, h.2]] at this
end Go.Am.Bern

/- Bern: the law BernLists. -/
namespace Go.Am
open Go
/-- As `loop_fams`; the contracts may be chosen by the state. -/
theorem loop_famsX {X : Cy} {b : Code} (live : List Nat) (fams : List Fam) (exits : List (List Nat × Ex)) {R : Exit → St → Prop} (n : Nat)
   (hbody : allF (fun f => ∀ x, f.post x → ∃ X' : Cy, X'.Ok ∧ X'.P = X.P ∧ X'.gl = X.gl ∧ X'.m0 = X.m0 ∧ X'.ro = X.ro ∧ run X' (f.H x) (bodyR X.m0 exits R) n (f.st x) [.code b, .inv (chkm X.m0 live (f.μ x) fams)]) fams) :
   LoopOK X b ⟨chks X.m0 live fams, exits.map (·.2)⟩ R := by
 intro ro G hG hm hro E F st a w hr hJ
 rw [← hm] at hJ
 obtain ⟨f, hf, x, E', hx, hr'⟩ := hr.chks hJ
 refine wpIn_loop (fun a w => ∃ f, f ∈ fams ∧ ∃ x E F, f.post x ∧ Rel G E F (f.st x) a w) (fun a w => leastOf fun n => ∃ f, f ∈ fams ∧ ∃ x E F, (f.post x ∧ Rel G E F (f.st x) a w) ∧ f.μ x = n) ⟨f, hf, x, E', F, hx, hr'⟩ ?_
 intro a w hI
 have hex : ∃ n, ∃ f, f ∈ fams ∧ ∃ x E F, (f.post x ∧ Rel G E F (f.st x) a w) ∧ f.μ x = n := by
   obtain ⟨f, hf, x, E, F, h⟩ := hI
   exact ⟨_, f, hf, x, E, F, h, rfl⟩
 obtain ⟨⟨f, hf, x, E, F, ⟨hx, hr⟩, hμ⟩, _⟩ := leastOf_spec hex
 obtain ⟨X', hX', eP, eg, em, er, hrun⟩ := allF_mem hbody hf x hx
 have hs := run_sound (ro := ro) hX' (by rw [eg]; exact hG) (by rw [em]; exact hm) (by rw [er]; exact hro) n _ _ hrun E F a w hr
 rw [eP] at hs
 refine wpIn_mono (show b.wpIn (Fw ro) 0 X.P _ a w from hs) ?_
 intro e a' w' he
 cases e with
 | normal =>
   obtain ⟨E1, F1, st1, h1, h2⟩ := he
   rw [← hm] at h2
   obtain ⟨f', hf', y, E2, ⟨h3, h3'⟩, h4⟩ := h1.chkm h2
   refine ⟨⟨f', hf', y, E2, F1, h3, h4⟩, ?_⟩
   refine Nat.lt_of_le_of_lt ((leastOf_spec ⟨_, f', hf', y, E2, F1, ⟨h3, h4⟩, rfl⟩).2 (f'.μ y) ⟨f', hf', y, E2, F1, ⟨h3, h4⟩, rfl⟩) ?_
   rw [← hμ]; exact h3'
 | exit id =>
   obtain ⟨E1, F1, st1, h1, h2⟩ := he
   simp only [bodyR, ← hm] at h2
   exact h1.exR h2
 | ret =>
   obtain ⟨E1, F1, st1, h1, h2⟩ := he
   exact ⟨E1, F1, st1, h1, h2⟩
 | goto l => obtain ⟨_, _, _, _, h2⟩ := he; exact h2.elim
 | panic ch => obtain ⟨_, _, _, _, h2⟩ := he; exact h2.elim
 | outgrown => obtain ⟨_, _, _, _, h2⟩ := he; exact h2.elim
end Go.Am
namespace Go.Am.Bern
open Go Go.Am Go.Proofs
end Go.Am.Bern

/- Bern: the law BernRoots: plain facts. -/
namespace Go.Am.Bern
open Go Go.Am Go.Proofs
theorem gd64 (l : List PQ) : P64.gd l = (decide (chg l = 0) || decide (chg l = 1)) := by
 show decide (chg l ≤ 1) = _
 by_cases h0 : chg l = 0
 · simp [h0]
 · by_cases h1 : chg l = 1
   · simp [h1]
   · simp [h0, h1]; omega
theorem grB_rdB (p : List Int) : ∀ n d k, grB P64.gd p n d k = rdB p n d k
 | 0, d, k => by rw [grB, rdB, gd64]; try rfl
 | n + 1, d, k => by
   rw [grB, rdB, gd64, grB_rdB p n, grB_rdB p n, Bool.or_assoc]; try rfl
theorem keep_append (p : List Int) (a b : List PQ) : keep p (a ++ b) = keep p a ++ keep p b := by unfold keep; rw [List.filter_append]
theorem keep_one (p : List Int) (d k : Nat) (h : P64.gd (qc p d k) = true) : keep p [((d : Int), (k : Int))] = if cgs p d k = 0 then [] else [((d : Int), (k : Int))] := by
 unfold keep cgz cgs
 simp only [List.filter, Int.toNat_natCast]
 by_cases h0 : chg (qc p d k) = 0 <;> simp [h0]
theorem keep_rdL (p : List Int) : ∀ n d k, grB P64.gd p n d k = true → keep p (grL P64.gd p n d k) = rdL p n d k
 | 0, d, k, h => by
   rw [grB] at h
   have h' := h
   rw [gd64] at h'
   rw [grL, if_pos h, keep_one p d k h, rdL]
   unfold cgs
   by_cases h0 : chg (qc p d k) = 0
   · simp [h0]
   · have h1 : chg (qc p d k) = 1 := by simpa [h0] using h'
     simp [h1]
 | n + 1, d, k, h => by
   rw [grB] at h
   rw [grL, rdL]
   by_cases hg : P64.gd (qc p d k) = true
   · have h' := hg
     rw [gd64] at h'
     rw [if_pos hg, keep_one p d k hg]
     unfold cgs
     by_cases h0 : chg (qc p d k) = 0
     · simp [h0]
     · have h1 : chg (qc p d k) = 1 := by simpa [h0] using h'
       simp [h1]
   · have hg' : P64.gd (qc p d k) = false := by simpa using hg
     rw [hg', Bool.false_or, Bool.and_eq_true] at h
     have h' := hg'
     rw [gd64, Bool.or_eq_false_iff] at h'
     have h0 : cgs p d k ≠ 0 := of_decide_eq_false h'.1
     have h1 : cgs p d k ≠ 1 := of_decide_eq_false h'.2
     rw [if_neg hg, if_pos h.1, keep_append, keep_rdL p n _ _ h.1, keep_rdL p n _ _ h.2, if_neg h0, if_neg h1, if_pos (by rw [← grB_rdB]; exact h.1)]
theorem cover_read (p : List Int) : P64.coverB p = readB p := grB_rdB p 6 0 0
theorem roots_read {p : List Int} (h : rootsB p) : rootsP p = readL p := by
 rw [rootsP, if_pos h]
 exact keep_rdL p 6 0 0 h.2.2
theorem chgS_nn : ∀ (l : List Int) (a : Int), 0 ≤ a → (∀ x ∈ l, 0 ≤ x) → chgS a l = 0
 | [], _, _, _ => rfl
 | b :: l, a, ha, h => by
   have hb := h b (by simp)
   have hl : ∀ x ∈ l, 0 ≤ x := fun x hx => h x (by simp [hx])
   unfold chgS
   split
   · exact chgS_nn l a ha hl
   · rw [chgS_nn l b hb hl, if_neg (by omega)]
theorem chgS_np : ∀ (l : List Int) (a : Int), a ≤ 0 → (∀ x ∈ l, x ≤ 0) → chgS a l = 0
 | [], _, _, _ => rfl
 | b :: l, a, ha, h => by
   have hb := h b (by simp)
   have hl : ∀ x ∈ l, x ≤ 0 := fun x hx => h x (by simp [hx])
   unfold chgS
   split
   · exact chgS_np l a ha hl
   · rw [chgS_np l b hb hl, if_neg (by omega)]
theorem chgS_zero : ∀ (l : List Int) (a : Int), chgS a l = 0 → (0 < a → ∀ x ∈ l, 0 ≤ x) ∧ (a < 0 → ∀ x ∈ l, x ≤ 0) ∧ ((∀ x ∈ l, 0 ≤ x) ∨ ∀ x ∈ l, x ≤ 0)
 | [], _, _ => ⟨fun _ x hx => by simp at hx, fun _ x hx => by simp at hx, .inl fun x hx => by simp at hx⟩
 | b :: l, a, h => by
   unfold chgS at h
   split at h
   · rename_i hb
     subst hb
     obtain ⟨h1, h2, h3⟩ := chgS_zero l a h
     refine ⟨fun ha x hx => ?_, fun ha x hx => ?_, ?_⟩
     · rcases List.mem_cons.mp hx with rfl | hx
       · exact Int.le_refl _
       · exact h1 ha x hx
     · rcases List.mem_cons.mp hx with rfl | hx
       · exact Int.le_refl _
       · exact h2 ha x hx
     · rcases h3 with h3 | h3
       · exact .inl fun x hx => by
           rcases List.mem_cons.mp hx with rfl | hx
           · exact Int.le_refl _
           · exact h3 x hx
       · exact .inr fun x hx => by
           rcases List.mem_cons.mp hx with rfl | hx
           · exact Int.le_refl _
           · exact h3 x hx
   · rename_i hb
     obtain ⟨h1, h2, _⟩ := chgS_zero l b (by omega)
     have hs : ¬ (a ≠ 0 ∧ ¬ (b < 0 ↔ a < 0)) := fun hc => by rw [if_pos hc] at h; omega
     rcases Int.lt_or_gt_of_ne hb with hb | hb
     · have hl : ∀ x ∈ b :: l, x ≤ 0 := fun x hx => by
         rcases List.mem_cons.mp hx with rfl | hx
         · omega
         · exact h2 hb x hx
       exact ⟨fun ha => by omega, fun _ => hl, .inr hl⟩
     · have hl : ∀ x ∈ b :: l, 0 ≤ x := fun x hx => by
         rcases List.mem_cons.mp hx with rfl | hx
         · omega
         · exact h1 hb x hx
       exact ⟨fun _ => hl, fun ha => by omega, .inl hl⟩
theorem num_np (r : Rat) : r.num ≤ 0 ↔ r ≤ 0 := by
 have h : 0 ≤ (-r).num ↔ 0 ≤ -r := Rat.num_nonneg
 rw [Rat.neg_num] at h
 constructor
 · intro h1
   have h2 := Rat.neg_le_neg (h.mp (by omega))
   rwa [Rat.neg_neg] at h2
 · intro h1
   have := h.mpr (by simpa using Rat.neg_le_neg h1)
   omega
theorem chg_zero {l : List Rat} : chg (qs l) = 0 ↔ (∀ r ∈ l, 0 ≤ r) ∨ ∀ r ∈ l, r ≤ 0 := by
 unfold chg qs
 have h1 : (∀ x ∈ (l.map qp).map (·.1), 0 ≤ x) ↔ ∀ r ∈ l, 0 ≤ r := by
   simp [qp, Rat.num_nonneg]
 have h2 : (∀ x ∈ (l.map qp).map (·.1), x ≤ 0) ↔ ∀ r ∈ l, r ≤ 0 := by
   simp [qp, num_np]
 constructor
 · intro h
   rcases (chgS_zero _ _ h).2.2 with h | h
   · exact .inl (h1.mp h)
   · exact .inr (h2.mp h)
 · rintro (h | h)
   · exact chgS_nn _ _ (Int.le_refl _) (h1.mpr h)
   · exact chgS_np _ _ (Int.le_refl _) (h2.mpr h)
section
variable {P : Rat → Prop} (x : Rat) (hP : ∀ a b, P a → P b → P (avg x a b)) (h0 : P 0)
include hP
theorem dcs_all : ∀ (l : List Rat), (∀ r ∈ l, P r) → ∀ r ∈ dcs x l, P r
 | [], _, r, hr => by simp [dcs] at hr
 | [_], _, r, hr => by simp [dcs] at hr
 | a :: b :: l, h, r, hr => by
   rw [dcs] at hr
   rcases List.mem_cons.mp hr with rfl | hr
   · exact hP a b (h a (by simp)) (h b (by simp))
   · exact dcs_all (b :: l) (fun y hy => h y (List.mem_cons_of_mem _ hy)) r hr
include h0
omit hP in
theorem getD_all {l : List Rat} (h : ∀ r ∈ l, P r) (i : Nat) : P (l.getD i 0) := by
 rw [List.getD_eq_getElem?_getD]
 cases hi : l[i]? with
 | none => exact h0
 | some r => exact h r (List.mem_of_getElem? hi)
theorem divL_all : ∀ (n : Nat) (l : List Rat), (∀ r ∈ l, P r) → ∀ r ∈ divL x n l, P r
 | 0, _, _, r, hr => by simp [divL] at hr
 | n + 1, l, h, r, hr => by
   rw [divL] at hr
   rcases List.mem_cons.mp hr with rfl | hr
   · exact getD_all h0 h 0
   · exact divL_all n _ (dcs_all x hP l h) r hr
theorem divR_all : ∀ (n : Nat) (l acc : List Rat), (∀ r ∈ l, P r) → (∀ r ∈ acc, P r) → ∀ r ∈ divR x n l acc, P r
 | 0, _, _, _, h, r, hr => h r hr
 | n + 1, l, acc, h, ha, r, hr => by
   rw [divR] at hr
   refine divR_all n _ _ (dcs_all x hP l h) (fun y hy => ?_) r hr
   rcases List.mem_cons.mp hy with rfl | hy
   · exact getD_all h0 h _
   · exact ha y hy
theorem dv_all {l : List Rat} (h : ∀ r ∈ l, P r) : (∀ r ∈ dvL x l, P r) ∧ ∀ r ∈ dvR x l, P r :=
 ⟨divL_all x hP h0 _ _ h, divR_all x hP h0 _ _ _ h (fun y hy => by simp at hy)⟩
end
theorem avg_nn (a b : Rat) (ha : 0 ≤ a) (hb : 0 ≤ b) : 0 ≤ avg half a b := by
 unfold avg
 have h1 : (0 : Rat) ≤ 1 - half := by decide +kernel
 have h2 : (0 : Rat) ≤ half := by decide +kernel
 exact Rat.add_nonneg (Rat.mul_nonneg ha h1) (Rat.mul_nonneg hb h2)
theorem avg_neg (a b : Rat) : avg half (-a) (-b) = - avg half a b := by
 unfold avg
 rw [Rat.neg_mul, Rat.neg_mul, Rat.neg_add]
theorem avg_np (a b : Rat) (ha : a ≤ 0) (hb : b ≤ 0) : avg half a b ≤ 0 := by
 have h := avg_nn (-a) (-b) (Rat.neg_le_neg ha) (Rat.neg_le_neg hb)
 rw [avg_neg] at h
 have := Rat.neg_le_neg h
 rwa [Rat.neg_neg] at this
theorem whole_all {P : Rat → Prop} {p : List Int} {d k : Nat} (hP : ∀ a b, P a → P b → P (avg half a b)) (h0 : P 0) (h : ∀ r ∈ cnr p d k, P r) : (∀ r ∈ cnr p (d + 1) (2 * k), P r) ∧ ∀ r ∈ cnr p (d + 1) (2 * k + 1), P r := by
 have hd := dv_all half hP h0 h
 constructor
 · rw [cnr, if_pos (by omega), show 2 * k / 2 = k by omega]; exact hd.1
 · rw [cnr, if_neg (by omega), show (2 * k + 1) / 2 = k by omega]; exact hd.2
theorem cgs_zero {p : List Int} {d k : Nat} (h : cgs p d k = 0) : cgs p (d + 1) (2 * k) = 0 ∧ cgs p (d + 1) (2 * k + 1) = 0 := by
 unfold cgs qc at *
 rw [chg_zero] at h
 rw [chg_zero, chg_zero]
 rcases h with h | h
 · have := whole_all avg_nn (by decide +kernel) h
   exact ⟨.inl this.1, .inl this.2⟩
 · have := whole_all avg_np (by decide +kernel) h
   exact ⟨.inr this.1, .inr this.2⟩
theorem cgs_below {p : List Int} : ∀ (n d k : Nat), cgs p d k = 0 → ∀ j, k * 2 ^ n ≤ j → j < (k + 1) * 2 ^ n → cgs p (d + n) j = 0
 | 0, d, k, h, j, h1, h2 => by
   have : j = k := by simp at h1 h2; omega
   subst this; exact h
 | n + 1, d, k, h, j, h1, h2 => by
   have hz := cgs_zero h
   rw [Nat.pow_succ, ← Nat.mul_assoc] at h1 h2
   have e : d + (n + 1) = d + 1 + n := by omega
   rw [e]
   have e1 : (2 * k) * 2 ^ n = k * 2 ^ n * 2 := by rw [Nat.mul_comm 2 k, Nat.mul_assoc, Nat.mul_comm 2, ← Nat.mul_assoc]
   have e2 : (2 * k + 1) * 2 ^ n = k * 2 ^ n * 2 + 2 ^ n := by rw [Nat.add_mul, e1, Nat.one_mul]
   have e3 : (2 * k + 1 + 1) * 2 ^ n = k * 2 ^ n * 2 + 2 ^ n + 2 ^ n := by rw [Nat.add_mul, e2, Nat.one_mul]
   have e4 : (k + 1) * 2 ^ n * 2 = k * 2 ^ n * 2 + 2 ^ n + 2 ^ n := by rw [Nat.add_mul, Nat.one_mul, Nat.add_mul]; omega
   rcases Nat.lt_or_ge j ((2 * k + 1) * 2 ^ n) with hj | hj
   · exact cgs_below n (d + 1) (2 * k) hz.1 j (by omega) hj
   · exact cgs_below n (d + 1) (2 * k + 1) hz.2 j hj (by omega)
theorem fr_at {n d k : Nat} (h : d + n = 6) : fr' ((d : Int), (k : Int)) = ((k * 2 ^ n : Nat) : Int) ∧ (2 : Int) ^ (6 - (d : Int)).toNat = ((2 ^ n : Nat) : Int) := by
 have e : (6 - (d : Int)).toNat = n := by omega
 unfold fr'
 dsimp only
 rw [e]
 exact ⟨by simp, by simp⟩
theorem gapz_join {p : List Int} {a b c : Int} (h1 : gapz p a b) (h2 : gapz p b c) : gapz p a c := fun j hj ha hc => by
 rcases Int.lt_or_le (j : Int) b with h | h
 · exact h1 j hj ha h
 · exact h2 j hj h hc
/-- What is read, is a reading. -/
theorem rdR_rdL (p : List Int) : ∀ (n d k : Nat) (a : Int) (rest : List PQ), d + n = 6 → k < 2 ^ d → rdB p n d k = true → a ≤ ((k * 2 ^ n : Nat) : Int) → gapz p a ((k * 2 ^ n : Nat) : Int) →
   (∀ b : Int, b ≤ (((k + 1) * 2 ^ n : Nat) : Int) → gapz p b (((k + 1) * 2 ^ n : Nat) : Int) → rdR p b rest) → rdR p a (rdL p n d k ++ rest) := by
 have hzero : ∀ (n d k : Nat) (a : Int) (rest : List PQ), d + n = 6 → cgs p d k = 0 → a ≤ ((k * 2 ^ n : Nat) : Int) → gapz p a ((k * 2 ^ n : Nat) : Int) →
     (∀ b : Int, b ≤ (((k + 1) * 2 ^ n : Nat) : Int) → gapz p b (((k + 1) * 2 ^ n : Nat) : Int) → rdR p b rest) → rdR p a rest := by
   intro n d k a rest hd h0 ha hg hr
   have hle : k * 2 ^ n ≤ (k + 1) * 2 ^ n := Nat.mul_le_mul_right _ (by omega)
   refine hr a (by omega) (gapz_join hg fun j hj h1 h2 => ?_)
   have := cgs_below n d k h0 j (by omega) (by omega)
   rwa [hd] at this
 have hone : ∀ (n d k : Nat) (a : Int) (rest : List PQ), d + n = 6 → k < 2 ^ d → cgs p d k = 1 → a ≤ ((k * 2 ^ n : Nat) : Int) → gapz p a ((k * 2 ^ n : Nat) : Int) →
     (∀ b : Int, b ≤ (((k + 1) * 2 ^ n : Nat) : Int) → gapz p b (((k + 1) * 2 ^ n : Nat) : Int) → rdR p b rest) → rdR p a ([((d : Int), (k : Int))] ++ rest) := by
   intro n d k a rest hd hk h1 ha hg hr
   have hf := fr_at (n := n) (d := d) (k := k) hd
   have e : (((k + 1) * 2 ^ n : Nat) : Int) = ((k * 2 ^ n : Nat) : Int) + ((2 ^ n : Nat) : Int) := by rw [Nat.add_mul, Nat.one_mul]; simp
   rw [List.singleton_append, rdR_cons, hf.1]
   dsimp only
   rw [hf.2, ← e]
   refine ⟨⟨by dsimp only; omega, by dsimp only; omega, by dsimp only; omega, ?_⟩, by rw [Int.toNat_natCast, Int.toNat_natCast]; exact h1, ha, hg, hr _ (Int.le_refl _) fun j _ h2 h3 => by omega⟩
   dsimp only
   rw [Int.toNat_natCast]
   exact_mod_cast hk
 intro n
 induction n with
 | zero =>
   intro d k a rest hd hk hb ha hg hr
   rw [rdB, Bool.or_eq_true, decide_eq_true_iff, decide_eq_true_iff] at hb
   rw [rdL]
   rcases hb with hb | hb
   · rw [if_pos hb]; exact hzero 0 d k a rest hd hb ha hg hr
   · rw [if_neg (by omega), if_pos hb]; exact hone 0 d k a rest hd hk hb ha hg hr
 | succ n ih =>
   intro d k a rest hd hk hb ha hg hr
   rw [rdB, Bool.or_eq_true, Bool.or_eq_true, Bool.and_eq_true, decide_eq_true_iff, decide_eq_true_iff] at hb
   rw [rdL]
   by_cases h0 : cgs p d k = 0
   · rw [if_pos h0]; exact hzero (n + 1) d k a rest hd h0 ha hg hr
   by_cases h1 : cgs p d k = 1
   · rw [if_neg h0, if_pos h1]; exact hone (n + 1) d k a rest hd hk h1 ha hg hr
   have hb := (hb.resolve_left h0).resolve_left h1
   have e1 : (2 * k) * 2 ^ n = k * 2 ^ (n + 1) := by rw [Nat.pow_succ, Nat.mul_comm 2 k, Nat.mul_assoc, Nat.mul_comm 2]
   have e2 : (2 * k + 1 + 1) * 2 ^ n = (k + 1) * 2 ^ (n + 1) := by rw [Nat.pow_succ, show 2 * k + 1 + 1 = (k + 1) * 2 by omega, Nat.mul_assoc, Nat.mul_comm 2]
   have hp2 : 2 ^ (d + 1) = 2 ^ d * 2 := Nat.pow_succ ..
   rw [if_neg h0, if_neg h1, if_pos hb.1, List.append_assoc]
   refine ih (d + 1) (2 * k) a _ (by omega) (by omega) hb.1 (by rw [e1]; exact ha) (by rw [e1]; exact hg) fun b hb1 hb2 => ?_
   refine ih (d + 1) (2 * k + 1) b rest (by omega) (by omega) hb.2 hb1 hb2 fun c hc1 hc2 => ?_
   rw [e2] at hc1 hc2
   exact hr c hc1 hc2
theorem readL_rdR {p : List Int} (h : readB p = true) : rdR p 0 (readL p) := by
 have := rdR_rdL p 6 0 0 0 [] rfl (by decide) h (by simp) (fun j _ h1 h2 => by simp at h2; omega) fun b hb hg => by
   rw [rdR]
   exact ⟨by simpa using hb, by simpa using hg⟩
 rwa [List.append_nil] at this
end Go.Am.Bern

/- Bern: the law BernRoots. -/
namespace Go.Am.Bern
open Go Go.Am Go.Proofs
def pA (p : List Int) : Prop := yesP p ∧ ¬ plainP p
def pB (p : List Int) : Prop := yesP p ∧ plainP p ∧ readB p = false
def pC (p : List Int) : Prop := yesP p ∧ plainP p ∧ readB p = true
theorem pC_roots {p : List Int} (h : pC p) : rootsB p := ⟨h.1.2, h.2.1, by rw [cover_read]; exact h.2.2⟩
theorem q19c (p : List Int) (h : pA p) : GCall Tryd.prog gl 19 true [.sl I64 p] [] [.ff, .int .i64 0] [] := by
 have := ye19 p h.1
 rw [show decide (isPoly p ∧ plainP p) = false by simp [h.2]] at this; exact this.lit
def q19 : Entry Tryd.prog gl := entry1 19 ⟨Tryd.f19, by kernel_rfl, by kernel_rfl, by kernel_rfl⟩ SI pA true (fun _ => [.ff, .int .i64 0]) (fun _ => []) q19c
theorem p19c (p : List Int) (h : yesP p ∧ plainP p) : GCall Tryd.prog gl 19 true [.sl I64 p] [] [.tt, .int .i64 0] [] := by
 have := ye19 p h.1
 rw [show decide (isPoly p ∧ plainP p) = true by simp [h.1.2, h.2]] at this; exact this.lit
def p19 : Entry Tryd.prog gl := entry1 19 ⟨Tryd.f19, by kernel_rfl, by kernel_rfl, by kernel_rfl⟩ SI (fun p => yesP p ∧ plainP p) true (fun _ => [.tt, .int .i64 0]) (fun _ => []) p19c
theorem a20c (p : List Int) (h : pA p) : GCall Tryd.prog gl 20 false [.sl I64 p] [] [.sl Q2 [], .int .i64 4] [] := by
 have := call20 p h.1.1
 rwa [show rootsP p = [] by simp [rootsP, rootsB, h.2], show rootsE p = 4 by simp [rootsE, h.1.2, h.2]] at this
def a20 : Entry Tryd.prog gl := entry1 20 ⟨Tryd.f20, by kernel_rfl, by kernel_rfl, by kernel_rfl⟩ SI pA false (fun _ => [.sl Q2 [], .int .i64 4]) (fun _ => []) a20c
theorem b20c (p : List Int) (h : pB p) : GCall Tryd.prog gl 20 false [.sl I64 p] [] [.sl Q2 [], .int .i64 8] [] := by
 have := call20 p h.1.1
 rwa [show rootsP p = [] by simp [rootsP, rootsB, cover_read, h.2.2], show rootsE p = 8 by simp [rootsE, cover_read, h.1.2, h.2.1, h.2.2]] at this
def b20 : Entry Tryd.prog gl := entry1 20 ⟨Tryd.f20, by kernel_rfl, by kernel_rfl, by kernel_rfl⟩ SI pB false (fun _ => [.sl Q2 [], .int .i64 8]) (fun _ => []) b20c
theorem c20c (p : List Int) (h : pC p) : GCall Tryd.prog gl 20 false [.sl I64 p] [] [.sl Q2 (readL p), .int .i64 0] [] := by
 have := call20 p h.1.1
 rwa [roots_read (pC_roots h), show rootsE p = 0 by simp [rootsE, cover_read, h.1.2, h.2.1, h.2.2]] at this
def c20 : Entry Tryd.prog gl := entry1 20 ⟨Tryd.f20, by kernel_rfl, by kernel_rfl, by kernel_rfl⟩ SI pC false (fun p => [.sl Q2 (readL p), .int .i64 0]) (fun _ => []) c20c
theorem a21c (p : List Int) (h : pA p) : GCall Tryd.prog gl 21 false [.sl I64 p] [] [.int .i64 0, .int .i64 4] [] := by
 have := call21 p h.1.1
 rwa [show (rootsP p).length = 0 by simp [rootsP, rootsB, h.2], show rootsE p = 4 by simp [rootsE, h.1.2, h.2]] at this
def a21 : Entry Tryd.prog gl := entry1 21 ⟨Tryd.f21, by kernel_rfl, by kernel_rfl, by kernel_rfl⟩ SI pA false (fun _ => [.int .i64 0, .int .i64 4]) (fun _ => []) a21c
theorem b21c (p : List Int) (h : pB p) : GCall Tryd.prog gl 21 false [.sl I64 p] [] [.int .i64 0, .int .i64 8] [] := by
 have := call21 p h.1.1
 rwa [show (rootsP p).length = 0 by simp [rootsP, rootsB, cover_read, h.2.2], show rootsE p = 8 by simp [rootsE, cover_read, h.1.2, h.2.1, h.2.2]] at this
def b21 : Entry Tryd.prog gl := entry1 21 ⟨Tryd.f21, by kernel_rfl, by kernel_rfl, by kernel_rfl⟩ SI pB false (fun _ => [.int .i64 0, .int .i64 8]) (fun _ => []) b21c
theorem c21c (p : List Int) (h : pC p) : GCall Tryd.prog gl 21 false [.sl I64 p] [] [.int .i64 (readL p).length, .int .i64 0] [] := by
 have := call21 p h.1.1
 rwa [roots_read (pC_roots h), show rootsE p = 0 by simp [rootsE, cover_read, h.1.2, h.2.1, h.2.2]] at this
def c21 : Entry Tryd.prog gl := entry1 21 ⟨Tryd.f21, by kernel_rfl, by kernel_rfl, by kernel_rfl⟩ SI pC false (fun p => [.int .i64 (readL p).length, .int .i64 0]) (fun _ => []) c21c
theorem n22c (p : List Int) (h : pA p) : GCall Tryd.prog gl 22 true [.sl I64 p] [] [.ff] [] := by
 have := call22 p h.1.2
 rw [decide_eq_false h.2] at this; exact this.lit
def n22 : Entry Tryd.prog gl := entry1 22 ⟨Tryd.f22, by kernel_rfl, by kernel_rfl, by kernel_rfl⟩ SI pA true (fun _ => [.ff]) (fun _ => []) n22c
theorem y22c (p : List Int) (h : isPoly p ∧ plainP p) : GCall Tryd.prog gl 22 true [.sl I64 p] [] [.tt] [] := by
 have := call22 p h.1
 rw [decide_eq_true h.2] at this; exact this.lit
def y22 : Entry Tryd.prog gl := entry1 22 ⟨Tryd.f22, by kernel_rfl, by kernel_rfl, by kernel_rfl⟩ SI (fun p => isPoly p ∧ plainP p) true (fun _ => [.tt]) (fun _ => []) y22c
theorem b23c (p : List Int) (h : pB p) : GCall Tryd.prog gl 23 false [.sl I64 p] [] [.sl Q2 (readL p), .ff] [] := by
 have := call23 p h.1.2
 rw [h.2.2] at this; exact this.lit
def b23 : Entry Tryd.prog gl := entry1 23 ⟨Tryd.f23, by kernel_rfl, by kernel_rfl, by kernel_rfl⟩ SI pB false (fun p => [.sl Q2 (readL p), .ff]) (fun _ => []) b23c
theorem c23c (p : List Int) (h : pC p) : GCall Tryd.prog gl 23 false [.sl I64 p] [] [.sl Q2 (readL p), .tt] [] := by
 have := call23 p h.1.2
 rw [h.2.2] at this; exact this.lit
def c23 : Entry Tryd.prog gl := entry1 23 ⟨Tryd.f23, by kernel_rfl, by kernel_rfl, by kernel_rfl⟩ SI pC false (fun p => [.sl Q2 (readL p), .tt]) (fun _ => []) c23c
theorem c24c (p : List Int) (l : List PQ) (h : (isPoly p ∧ l.length < 1000000) ∧ rdR p 0 l) : GCall Tryd.prog gl 24 true [.sl I64 p, .sl Q2 l] [] [.tt] [] := by
 have := call24 p l h.1
 rw [decide_eq_true h.2] at this; exact this.lit
def c24 : Entry Tryd.prog gl := entry2 24 ⟨Tryd.f24, by kernel_rfl, by kernel_rfl, by kernel_rfl⟩ SI SQ (fun p l => (isPoly p ∧ l.length < 1000000) ∧ rdR p 0 l) true (fun _ _ => [.tt]) (fun _ _ => []) c24c
theorem set_same {l : List Int} {i : Nat} {x : Int} (h : i < l.length) : (l.set i x).getD i 0 = x := by
 rw [List.getD_eq_getElem?_getD, List.getElem?_set]; simp [h]
theorem set_other {l : List Int} {i j : Nat} {x : Int} (h : i ≠ j) : (l.set i x).getD j 0 = l.getD j 0 := by
 rw [List.getD_eq_getElem?_getD, List.getD_eq_getElem?_getD, List.getElem?_set, if_neg h]
noncomputable def L4_0 : Code := lp (bodyOf Tryd.f4) 0
noncomputable def L4_3 : Code := lp (bodyOf Tryd.f4) 3
def hs4 : Nat → Bool := fun t => Nat.beq t 108
noncomputable abbrev E4L : EL := [e12v, e18]
noncomputable abbrev E4A : EL := [q19, a20, a21, n22, e23, e25]
noncomputable abbrev E4B : EL := [p19, b20, b21, y22, b23, e25]
noncomputable abbrev E4C : EL := [p19, c20, c21, y22, c23, c24, e25]
def st4b (p : List Int) (i : Nat) (s : Nat × List Int) : St := ⟨.dead :: .dead :: .dead :: .sl I64 p :: .int .i64 i :: (dd 8 ++ .own 0 0 :: .int .i64 s.1 :: dd 132), [.sc 0 3 I64 s.2]⟩
def inv4b (p : List Int) (s : Nat × List Int) : Prop := s.1 ≤ p.length ∧ s.2.length = p.length + 1 ∧ ∀ j, -(1000 * ((s.1 : Int) + 1)) ≤ s.2.getD j 0 ∧ s.2.getD j 0 ≤ 1000 * ((s.1 : Int) + 1)
def ex4b (p : List Int) (i : Nat) : List (List Nat × Ex) := [([4, 13], ⟨3, List Int, fun z => z.length = p.length + 1, fun z => ⟨.dead :: .dead :: .dead :: .dead :: .int .i64 i :: (dd 8 ++ .own 0 0 :: dd 133), [.sc 0 3 I64 z]⟩⟩)]
noncomputable def H4b (p : List Int) (i : Nat) : Nat → Option Hint := fun _ => some ⟨chk 0 [3, 4, 13, 14] (inv4b p) (st4b p i), (ex4b p i).map (·.2)⟩
theorem loop4b (p : List Int) (i : Nat) (hp : isPoly p) (R : Exit → St → Prop) : LoopOK (Xw [] hs4) L4_3 ⟨chk 0 [3, 4, 13, 14] (inv4b p) (st4b p i), (ex4b p i).map (·.2)⟩ R := by
 refine loop_ok (Xw_ok [] hs4) (H := fun _ _ => none) [3, 4, 13, 14] (inv4b p) (st4b p i) (fun s => p.length - s.1) (ex4b p i) 80 fun (s : Nat × List Int) hs => ?_
 refine of_eq (q := True ∧ True ∧ True ∧ True ∧ ((s.fst : Int) < (p.length : Int) → True ∧ True ∧ True ∧ True ∧ idxPre (s.fst : Int) s.snd.length ∧ True ∧ True ∧ True ∧ idxPre (s.fst : Int) p.length ∧ True ∧ inR .i64 (s.snd.getD s.fst (0 : Int) - p.getD s.fst (0 : Int)) ∧ idxPre (s.fst : Int) s.snd.length ∧ True ∧ True ∧ True ∧ inR .i64 ((s.fst : Int) + 1) ∧ True ∧ True ∧ inR .i64 ((s.fst : Int) + 1) ∧ idxPre ((s.fst : Int) + 1) (s.snd.set s.fst (s.snd.getD s.fst (0 : Int) - p.getD s.fst (0 : Int))).length ∧ True ∧ True ∧ True ∧ idxPre (s.fst : Int) p.length ∧ True ∧ inR .i64 ((3 : Int) * p.getD s.fst (0 : Int)) ∧ inR .i64 ((s.snd.set s.fst (s.snd.getD s.fst (0 : Int) - p.getD s.fst (0 : Int))).getD (s.fst + 1) (0 : Int) + 3 * p.getD s.fst (0 : Int)) ∧ idxPre ((s.fst : Int) + 1) (s.snd.set s.fst (s.snd.getD s.fst (0 : Int) - p.getD s.fst (0 : Int))).length ∧ True ∧ True ∧ inR .i64 ((s.fst : Int) + 1) ∧ True ∧ ∃ (y : Nat × List Int), (inv4b p y ∧ p.length - y.fst < p.length - s.fst) ∧ (p = p ∧ (i : Int) = (i : Int) ∧ True ∧ (s.fst : Int) + 1 = (y.fst : Int) ∧ True) ∧ (s.snd.set s.fst (s.snd.getD s.fst (0 : Int) - p.getD s.fst (0 : Int))).set (s.fst + 1) ((s.snd.set s.fst (s.snd.getD s.fst (0 : Int) - p.getD s.fst (0 : Int))).getD (s.fst + 1) (0 : Int) + 3 * p.getD s.fst (0 : Int)) = y.snd ∧ True) ∧ (¬(s.fst : Int) < (p.length : Int) → ∃ (y : List Int), y.length = p.length + 1 ∧ ((i : Int) = (i : Int) ∧ True ∧ True) ∧ s.snd = y ∧ True)) (by kernel_rfl) ?_
 simp only [true_and, and_true, false_and, and_false, or_false, false_or, exists_const, exists_false, rat_num_den, rat_int, Int.toNat_natCast]
 obtain ⟨k, z⟩ := s
 dsimp only at *
 obtain ⟨h1, h2, h3⟩ := hs
 dsimp only at h1 h2 h3
 have hp7 : p.length ≤ 7 := hp.2.1
 refine ⟨fun h => ?_, fun _ => ⟨z, h2, rfl⟩⟩
 have hk : k < p.length := by omega
 have hpk := coefs_getD hp.2.2 k
 have hz0 := h3 k
 have hz1 := h3 (k + 1)
 have e1 : (z.set k (z.getD k 0 - p.getD k 0)).getD (k + 1) 0 = z.getD (k + 1) 0 := set_other (by omega)
 have hx1 : idxPre (k : Int) z.length := idx_nat (by omega)
 have hx2 : idxPre (k : Int) p.length := idx_nat hk
 have hx3 : idxPre ((k : Int) + 1) (z.set k (z.getD k 0 - p.getD k 0)).length := by rw [List.length_set]; unfold idxPre; omega
 rw [e1]
 generalize hu : z.getD k 0 = u at *
 generalize hv : z.getD (k + 1) 0 = v at *
 generalize hc : p.getD k 0 = c at *
 refine ⟨hx1, hx2, by simp only [inR]; omega, hx1, by simp only [inR]; omega, by simp only [inR]; omega, hx3, hx2, by simp only [inR]; omega, by simp only [inR]; omega, hx3, by simp only [inR]; omega, (k + 1, (z.set k (u - c)).set (k + 1) (v + 3 * c)), ⟨⟨by dsimp only; omega, by simp [h2], fun j => ?_⟩, by dsimp only; omega⟩, by dsimp only; omega, rfl⟩
 dsimp only
 have hj := h3 j
 have e3 : (((k + 1 : Nat) : Int) + 1) = (k : Int) + 2 := by omega
 rw [e3]
 by_cases hj1 : j = k + 1
 · subst hj1
   rw [set_same (by rw [List.length_set]; omega)]; omega
 · rw [set_other (by omega)]
   by_cases hj2 : j = k
   · subst hj2
     rw [set_same (by omega)]; omega
   · rw [set_other (by omega)]; omega
def hd4 (a : AV) (i : Int) : List AV := .dead :: .dead :: .dead :: a :: .int .i64 i :: dd 142
def sv4 (l : List Int) (_ : Unit) : St := ⟨hd4 (.sl I64 (tmL l)) 0, []⟩
def so4 (s : Nat × List Int) : St := ⟨hd4 (.own 0 0) s.1, [.sc 0 3 I64 s.2]⟩
noncomputable def fm4 (l : List Int) : List Fam := [⟨Unit, fun _ => True, sv4 l, fun _ => 3, fun _ => H4b (tmL l) 0⟩, ⟨Nat × List Int, fun s => 1 ≤ s.1 ∧ s.1 ≤ 2 ∧ isPoly s.2, so4, fun s => 2 - s.1, fun s => H4b s.2 s.1⟩]
def ex4 : List (List Nat × Ex) := [([], ⟨0, Unit, fun _ => True, fun _ => ⟨dd 147, []⟩⟩)]
noncomputable def H4 (l : List Int) : Nat → Option Hint := fun _ => some ⟨chks 0 [3, 4] (fm4 l), ex4.map (·.2)⟩
theorem rdl_len (p : List Int) : (readL p).length < 1000000 := Nat.lt_of_le_of_lt (rdL_len p 6 0 0) (by decide)
theorem inv4b_init (p : List Int) : inv4b p (0, List.replicate (p.length + 1) 0) := by
 refine ⟨Nat.zero_le _, by simp, fun j => ?_⟩
 dsimp only
 have : (List.replicate (p.length + 1) (0 : Int)).getD j 0 = 0 := by
   rw [List.getD_eq_getElem?_getD, List.getElem?_replicate]; split <;> rfl
 rw [this]; omega
set_option maxHeartbeats 8000000 in
theorem loop4 (l : List Int) : LoopOK (X E4L) L4_0 ⟨chks 0 [3, 4] (fm4 l), ex4.map (·.2)⟩ (RetR (X E4L) true false [.tmp 2] [.tt] []) := by
 refine loop_famsX [3, 4] (fm4 l) ex4 250 ⟨fun _ _ => ?_, fun (s : Nat × List Int) hs => ?_, trivial⟩
 · have hp : isPoly (tmL l) := tmL_poly l
   have hy : yesP (tmL l) := ⟨by have := hp.2.1; omega, hp⟩
   have hp7 := hp.2.1
   have hlen : (readL (tmL l)).length < 1000000 := rdl_len _
   have hin : ∃ y : Nat × List Int, inv4b (tmL l) y ∧ (0 : Int) = (y.1 : Int) ∧ List.replicate (List.length (tmL l) + 1) (0 : Int) = y.2 := ⟨(0, List.replicate (List.length (tmL l) + 1) 0), inv4b_init _, rfl, rfl⟩
   by_cases hc : plainP (tmL l)
   · by_cases hr : readB (tmL l) = true
     · refine ⟨Xw E4C hs4, Xw_ok _ _, rfl, rfl, rfl, rfl, ?_⟩
       have hL : ∀ R, LoopOK (Xw E4C hs4) L4_3 ⟨chk 0 [3, 4, 13, 14] (inv4b (tmL l)) (st4b (tmL l) 0), (ex4b (tmL l) 0).map (·.2)⟩ R := fun R => loop4b (tmL l) 0 hp R
       have hC : pC (tmL l) := ⟨hy, hc, hr⟩
       have hD := hC
       unfold pC at hD
       have hE := readL_rdR hr
       refine of_eq (q := True ∧ True ∧ ((0 : Int) < 2 → True ∧ ((yesP (tmL l) ∧ plainP (tmL l)) ∧ True) ∧ True ∧ True ∧ True ∧ True ∧ True ∧ True ∧ ((yesP (tmL l) ∧ plainP (tmL l) ∧ readB (tmL l) = true) ∧ True) ∧ True ∧ True ∧ True ∧ True ∧ True ∧ True ∧ ((yesP (tmL l) ∧ plainP (tmL l) ∧ readB (tmL l) = true) ∧ True) ∧ True ∧ True ∧ True ∧ True ∧ True ∧ True ∧ True ∧ True ∧ (¬(0 : Int) = 0 → True ∧ True ∧ True ∧ (false = true ∧ True) ∧ True) ∧ (¬¬(0 : Int) = 0 → True ∧ True ∧ ((isPoly (tmL l) ∧ plainP (tmL l)) ∧ True) ∧ True ∧ True ∧ (false = true → True ∧ True ∧ (false = true ∧ True) ∧ True) ∧ (false = false → True ∧ ((yesP (tmL l) ∧ plainP (tmL l) ∧ readB (tmL l) = true) ∧ True) ∧ True ∧ True ∧ True ∧ True ∧ True ∧ True ∧ True ∧ True ∧ True ∧ True ∧ True ∧ True ∧ True ∧ True ∧ (¬(0 : Int) = 0 → True ∧ True ∧ True ∧ True ∧ True ∧ True ∧ True ∧ True ∧ True ∧ (false = true ∧ True) ∧ True) ∧ (¬¬(0 : Int) = 0 → True ∧ True ∧ True ∧ True ∧ (¬(0 : Int) = 0 → True ∧ True ∧ True ∧ True ∧ True ∧ True ∧ True ∧ (false = true ∧ True) ∧ True) ∧ (¬¬(0 : Int) = 0 → True ∧ True ∧ True ∧ True ∧ True ∧ True ∧ (¬(↑(readL (tmL l)).length : Int) = (↑(readL (tmL l)).length : Int) → True ∧ True ∧ True ∧ True ∧ True ∧ (false = true ∧ True) ∧ True) ∧ (¬¬(↑(readL (tmL l)).length : Int) = (↑(readL (tmL l)).length : Int) → True ∧ True ∧ True ∧ True ∧ True ∧ True ∧ (¬(↑(readL (tmL l)).length : Int) = (↑(readL (tmL l)).length : Int) → True ∧ True ∧ True ∧ (false = true ∧ True) ∧ True) ∧ (¬¬(↑(readL (tmL l)).length : Int) = (↑(readL (tmL l)).length : Int) → True ∧ True ∧ (((isPoly (tmL l) ∧ (readL (tmL l)).length < 1000000) ∧ rdR (tmL l) (0 : Int) (readL (tmL l))) ∧ True) ∧ True ∧ True ∧ True ∧ True ∧ inR .i64 ((↑(tmL l).length : Int) + 1) ∧ ((0 : Int) ≤ (↑(tmL l).length : Int) + 1 ∧ (↑(tmL l).length : Int) + 1 ≤ (↑(tmL l).length : Int) + 1 ∧ ((↑(tmL l).length : Int) + 1) * (↑(nat_lit 8) : Int) ≤ 140737488355328 ∧ (↑(tmL l).length : Int) + 1 ≤ 140737488355328) ∧ True ∧ True ∧ LoopOK (Xw E4C hs4) L4_3 { J := chk (0 : Nat) [(3 : Nat), (4 : Nat), (13 : Nat), (14 : Nat)] (inv4b (tmL l)) (st4b (tmL l) (0 : Nat)), exits := List.map (fun (x : List Nat × Ex) => x.snd) (ex4b (tmL l) (0 : Nat)) } (bodyR (X E4L).m0 ex4 (RetR (X E4L) true false [ResultVar.tmp (2 : Tmp)] [AV.tt] [])) ∧ (∃ (y : Nat × List Int), inv4b (tmL l) y ∧ (tmL l = tmL l ∧ (0 : Int) = 0 ∧ True ∧ (0 : Int) = (y.fst : Int) ∧ True) ∧ List.replicate ((tmL l).length + 1) (Ty.int .i64).dflt = y.snd ∧ True) ∧ (∀ (y : List Int), y.length = (tmL l).length + 1 → True ∧ (y.length + 1 ≤ 1000000 ∧ True) ∧ True ∧ ((!decide (isPoly y)) = true → ∃ (y : Unit), True ∧ True ∧ True) ∧ ((!decide (isPoly y)) = false → True ∧ True ∧ True ∧ inR .i64 (1 : Int) ∧ True ∧ ((∃ (y : Unit), (True ∧ (3 : Nat) < 3) ∧ (False ∧ (1 : Int) = 0 ∧ True) ∧ True) ∨ ∃ (y_1 : Nat × List Int), (((1 : Nat) ≤ y_1.fst ∧ y_1.fst ≤ 2 ∧ isPoly y_1.snd) ∧ (2 : Nat) - y_1.fst < 3) ∧ (True ∧ (1 : Int) = (y_1.fst : Int) ∧ True) ∧ y = y_1.snd ∧ True))) ∧ True))))))) ∧ (¬(0 : Int) < 2 → ∃ (y : Unit), True ∧ True ∧ True)) (by kernel_rfl) ?_
       simp only [true_and, and_true, false_and, and_false, or_false, false_or, exists_const, not_true_eq_false, not_false_eq_true, true_imp_iff, false_imp_iff, implies_true, rat_num_den, Int.toNat_natCast]
       refine fun h2 => ?_
       have hfin : ∀ y : List Int, y.length = List.length (tmL l) + 1 → y.length + 1 ≤ 1000000 ∧ ((!decide (isPoly y)) = false → inR .i64 ((0 : Int) + 1) ∧ ∃ z : Nat × List Int, ((1 ≤ z.1 ∧ z.1 ≤ 2 ∧ isPoly z.2) ∧ 2 - z.1 < 3) ∧ (0 : Int) + 1 = (z.1 : Int) ∧ y = z.2) := fun y hy => ⟨by omega, fun h => ⟨by simp only [inR]; omega, (0 + 1, y), ⟨⟨by dsimp only; omega, by dsimp only; omega, by simpa using h⟩, by dsimp only; omega⟩, by dsimp only; omega, rfl⟩⟩
       repeat' first | exact hL _ | exact hin | exact hfin | assumption | omega | exact ⟨hp, hc⟩ | (simp only [inR]; omega) | exact fun h => h | intro _ | refine And.intro ?_ ?_
     · have hr : readB (tmL l) = false := by simpa using hr
       refine ⟨Xw E4B hs4, Xw_ok _ _, rfl, rfl, rfl, rfl, ?_⟩
       have hL : ∀ R, LoopOK (Xw E4B hs4) L4_3 ⟨chk 0 [3, 4, 13, 14] (inv4b (tmL l)) (st4b (tmL l) 0), (ex4b (tmL l) 0).map (·.2)⟩ R := fun R => loop4b (tmL l) 0 hp R
       have hC : pB (tmL l) := ⟨hy, hc, hr⟩
       have hD := hC
       unfold pB at hD
       refine of_eq (q := True ∧ True ∧ ((0 : Int) < 2 → True ∧ ((yesP (tmL l) ∧ plainP (tmL l)) ∧ True) ∧ True ∧ True ∧ True ∧ True ∧ True ∧ True ∧ ((yesP (tmL l) ∧ plainP (tmL l) ∧ readB (tmL l) = false) ∧ True) ∧ True ∧ True ∧ True ∧ True ∧ True ∧ True ∧ ((yesP (tmL l) ∧ plainP (tmL l) ∧ readB (tmL l) = false) ∧ True) ∧ True ∧ True ∧ True ∧ True ∧ True ∧ True ∧ True ∧ True ∧ (¬(0 : Int) = 0 → True ∧ True ∧ True ∧ (false = true ∧ True) ∧ True) ∧ (¬¬(0 : Int) = 0 → True ∧ True ∧ ((isPoly (tmL l) ∧ plainP (tmL l)) ∧ True) ∧ True ∧ True ∧ (false = true → True ∧ True ∧ (false = true ∧ True) ∧ True) ∧ (false = false → True ∧ ((yesP (tmL l) ∧ plainP (tmL l) ∧ readB (tmL l) = false) ∧ True) ∧ True ∧ True ∧ True ∧ True ∧ True ∧ True ∧ True ∧ True ∧ True ∧ True ∧ True ∧ True ∧ True ∧ True ∧ (¬(8 : Int) = 8 → True ∧ True ∧ True ∧ True ∧ True ∧ (false = true ∧ True) ∧ True) ∧ (¬¬(8 : Int) = 8 → True ∧ True ∧ True ∧ True ∧ (¬(8 : Int) = 8 → True ∧ True ∧ True ∧ (false = true ∧ True) ∧ True) ∧ (¬¬(8 : Int) = 8 → True ∧ True ∧ True ∧ inR .i64 (0 : Int) ∧ True ∧ True ∧ (¬(0 : Int) = 0 → True ∧ True ∧ (false = true ∧ True) ∧ True) ∧ (¬¬(0 : Int) = 0 → True ∧ True ∧ inR .i64 ((↑(tmL l).length : Int) + 1) ∧ ((0 : Int) ≤ (↑(tmL l).length : Int) + 1 ∧ (↑(tmL l).length : Int) + 1 ≤ (↑(tmL l).length : Int) + 1 ∧ ((↑(tmL l).length : Int) + 1) * (↑(nat_lit 8) : Int) ≤ 140737488355328 ∧ (↑(tmL l).length : Int) + 1 ≤ 140737488355328) ∧ True ∧ True ∧ LoopOK (Xw E4B hs4) L4_3 { J := chk (0 : Nat) [(3 : Nat), (4 : Nat), (13 : Nat), (14 : Nat)] (inv4b (tmL l)) (st4b (tmL l) (0 : Nat)), exits := List.map (fun (x : List Nat × Ex) => x.snd) (ex4b (tmL l) (0 : Nat)) } (bodyR (X E4L).m0 ex4 (RetR (X E4L) true false [ResultVar.tmp (2 : Tmp)] [AV.tt] [])) ∧ (∃ (y : Nat × List Int), inv4b (tmL l) y ∧ (tmL l = tmL l ∧ (0 : Int) = 0 ∧ True ∧ (0 : Int) = (y.fst : Int) ∧ True) ∧ List.replicate ((tmL l).length + 1) (Ty.int .i64).dflt = y.snd ∧ True) ∧ (∀ (y : List Int), y.length = (tmL l).length + 1 → True ∧ (y.length + 1 ≤ 1000000 ∧ True) ∧ True ∧ ((!decide (isPoly y)) = true → ∃ (y : Unit), True ∧ True ∧ True) ∧ ((!decide (isPoly y)) = false → True ∧ True ∧ True ∧ inR .i64 (1 : Int) ∧ True ∧ ((∃ (y : Unit), (True ∧ (3 : Nat) < 3) ∧ (False ∧ (1 : Int) = 0 ∧ True) ∧ True) ∨ ∃ (y_1 : Nat × List Int), (((1 : Nat) ≤ y_1.fst ∧ y_1.fst ≤ 2 ∧ isPoly y_1.snd) ∧ (2 : Nat) - y_1.fst < 3) ∧ (True ∧ (1 : Int) = (y_1.fst : Int) ∧ True) ∧ y = y_1.snd ∧ True))) ∧ True)))))) ∧ (¬(0 : Int) < 2 → ∃ (y : Unit), True ∧ True ∧ True)) (by kernel_rfl) ?_
       simp only [true_and, and_true, false_and, and_false, or_false, false_or, exists_const, not_true_eq_false, not_false_eq_true, true_imp_iff, false_imp_iff, implies_true, rat_num_den, Int.toNat_natCast]
       refine fun h2 => ?_
       have hfin : ∀ y : List Int, y.length = List.length (tmL l) + 1 → y.length + 1 ≤ 1000000 ∧ ((!decide (isPoly y)) = false → inR .i64 ((0 : Int) + 1) ∧ ∃ z : Nat × List Int, ((1 ≤ z.1 ∧ z.1 ≤ 2 ∧ isPoly z.2) ∧ 2 - z.1 < 3) ∧ (0 : Int) + 1 = (z.1 : Int) ∧ y = z.2) := fun y hy => ⟨by omega, fun h => ⟨by simp only [inR]; omega, (0 + 1, y), ⟨⟨by dsimp only; omega, by dsimp only; omega, by simpa using h⟩, by dsimp only; omega⟩, by dsimp only; omega, rfl⟩⟩
       repeat' first | exact hL _ | exact hin | exact hfin | assumption | omega | exact ⟨hp, hc⟩ | (simp only [inR]; omega) | exact fun h => h | intro _ | refine And.intro ?_ ?_
   · refine ⟨Xw E4A hs4, Xw_ok _ _, rfl, rfl, rfl, rfl, ?_⟩
     have hL : ∀ R, LoopOK (Xw E4A hs4) L4_3 ⟨chk 0 [3, 4, 13, 14] (inv4b (tmL l)) (st4b (tmL l) 0), (ex4b (tmL l) 0).map (·.2)⟩ R := fun R => loop4b (tmL l) 0 hp R
     have hC : pA (tmL l) := ⟨hy, hc⟩
     have hD := hC
     unfold pA at hD
     refine of_eq (q := True ∧ True ∧ ((0 : Int) < 2 → True ∧ ((yesP (tmL l) ∧ ¬plainP (tmL l)) ∧ True) ∧ True ∧ True ∧ True ∧ True ∧ True ∧ True ∧ ((yesP (tmL l) ∧ ¬plainP (tmL l)) ∧ True) ∧ True ∧ True ∧ True ∧ True ∧ True ∧ True ∧ ((yesP (tmL l) ∧ ¬plainP (tmL l)) ∧ True) ∧ True ∧ True ∧ True ∧ True ∧ True ∧ True ∧ True ∧ True ∧ (¬(0 : Int) = 0 → True ∧ True ∧ True ∧ (false = true ∧ True) ∧ True) ∧ (¬¬(0 : Int) = 0 → True ∧ True ∧ ((yesP (tmL l) ∧ ¬plainP (tmL l)) ∧ True) ∧ True ∧ True ∧ (false = true → True ∧ True ∧ (false = true ∧ True) ∧ True) ∧ (false = false → True ∧ (((1 : Nat) ≤ (tmL l).length ∧ (tmL l).length ≤ 7 ∧ coefs (tmL l)) ∧ True) ∧ True ∧ True ∧ True ∧ True ∧ True ∧ True ∧ True ∧ True ∧ True ∧ True ∧ True ∧ (¬(4 : Int) = 4 → True ∧ True ∧ True ∧ True ∧ True ∧ (false = true ∧ True) ∧ True) ∧ (¬¬(4 : Int) = 4 → True ∧ True ∧ True ∧ True ∧ (¬(4 : Int) = 4 → True ∧ True ∧ True ∧ (false = true ∧ True) ∧ True) ∧ (¬¬(4 : Int) = 4 → True ∧ True ∧ True ∧ inR .i64 (0 : Int) ∧ True ∧ True ∧ (¬(0 : Int) = 0 → True ∧ True ∧ (false = true ∧ True) ∧ True) ∧ (¬¬(0 : Int) = 0 → True ∧ True ∧ inR .i64 ((↑(tmL l).length : Int) + 1) ∧ ((0 : Int) ≤ (↑(tmL l).length : Int) + 1 ∧ (↑(tmL l).length : Int) + 1 ≤ (↑(tmL l).length : Int) + 1 ∧ ((↑(tmL l).length : Int) + 1) * (↑(nat_lit 8) : Int) ≤ 140737488355328 ∧ (↑(tmL l).length : Int) + 1 ≤ 140737488355328) ∧ True ∧ True ∧ LoopOK (Xw E4A hs4) L4_3 { J := chk (0 : Nat) [(3 : Nat), (4 : Nat), (13 : Nat), (14 : Nat)] (inv4b (tmL l)) (st4b (tmL l) (0 : Nat)), exits := List.map (fun (x : List Nat × Ex) => x.snd) (ex4b (tmL l) (0 : Nat)) } (bodyR (X E4L).m0 ex4 (RetR (X E4L) true false [ResultVar.tmp (2 : Tmp)] [AV.tt] [])) ∧ (∃ (y : Nat × List Int), inv4b (tmL l) y ∧ (tmL l = tmL l ∧ (0 : Int) = 0 ∧ True ∧ (0 : Int) = (y.fst : Int) ∧ True) ∧ List.replicate ((tmL l).length + 1) (Ty.int .i64).dflt = y.snd ∧ True) ∧ (∀ (y : List Int), y.length = (tmL l).length + 1 → True ∧ (y.length + 1 ≤ 1000000 ∧ True) ∧ True ∧ ((!decide (isPoly y)) = true → ∃ (y : Unit), True ∧ True ∧ True) ∧ ((!decide (isPoly y)) = false → True ∧ True ∧ True ∧ inR .i64 (1 : Int) ∧ True ∧ ((∃ (y : Unit), (True ∧ (3 : Nat) < 3) ∧ (False ∧ (1 : Int) = 0 ∧ True) ∧ True) ∨ ∃ (y_1 : Nat × List Int), (((1 : Nat) ≤ y_1.fst ∧ y_1.fst ≤ 2 ∧ isPoly y_1.snd) ∧ (2 : Nat) - y_1.fst < 3) ∧ (True ∧ (1 : Int) = (y_1.fst : Int) ∧ True) ∧ y = y_1.snd ∧ True))) ∧ True)))))) ∧ (¬(0 : Int) < 2 → ∃ (y : Unit), True ∧ True ∧ True)) (by kernel_rfl) ?_
     simp only [true_and, and_true, false_and, and_false, or_false, false_or, exists_const, not_true_eq_false, not_false_eq_true, true_imp_iff, false_imp_iff, implies_true, rat_num_den, Int.toNat_natCast]
     refine fun h2 => ?_
     have hfin : ∀ y : List Int, y.length = List.length (tmL l) + 1 → y.length + 1 ≤ 1000000 ∧ ((!decide (isPoly y)) = false → inR .i64 ((0 : Int) + 1) ∧ ∃ z : Nat × List Int, ((1 ≤ z.1 ∧ z.1 ≤ 2 ∧ isPoly z.2) ∧ 2 - z.1 < 3) ∧ (0 : Int) + 1 = (z.1 : Int) ∧ y = z.2) := fun y hy => ⟨by omega, fun h => ⟨by simp only [inR]; omega, (0 + 1, y), ⟨⟨by dsimp only; omega, by dsimp only; omega, by simpa using h⟩, by dsimp only; omega⟩, by dsimp only; omega, rfl⟩⟩
     repeat' first | exact hL _ | exact hin | exact hfin | assumption | omega | exact ⟨hp, hc⟩ | (simp only [inR]; omega) | exact fun h => h | intro _ | refine And.intro ?_ ?_
 · obtain ⟨i, p⟩ := s
   obtain ⟨hi1, hi2, hp⟩ := hs
   dsimp only at hi1 hi2 hp
   have hy : yesP p := ⟨by have := hp.2.1; omega, hp⟩
   have hp7 := hp.2.1
   have hlen : (readL p).length < 1000000 := rdl_len _
   have hin : ∃ y : Nat × List Int, inv4b p y ∧ (0 : Int) = (y.1 : Int) ∧ List.replicate (List.length p + 1) (0 : Int) = y.2 := ⟨(0, List.replicate (List.length p + 1) 0), inv4b_init _, rfl, rfl⟩
   by_cases hc : plainP p
   · by_cases hr : readB p = true
     · refine ⟨Xw E4C hs4, Xw_ok _ _, rfl, rfl, rfl, rfl, ?_⟩
       have hL : ∀ R, LoopOK (Xw E4C hs4) L4_3 ⟨chk 0 [3, 4, 13, 14] (inv4b p) (st4b p i), (ex4b p i).map (·.2)⟩ R := fun R => loop4b p i hp R
       have hC : pC p := ⟨hy, hc, hr⟩
       have hD := hC
       unfold pC at hD
       have hE := readL_rdR hr
       refine of_eq (q := True ∧ True ∧ ((i : Int) < 2 → True ∧ ((yesP p ∧ plainP p) ∧ True) ∧ True ∧ True ∧ True ∧ True ∧ True ∧ True ∧ ((yesP p ∧ plainP p ∧ readB p = true) ∧ True) ∧ True ∧ True ∧ True ∧ True ∧ True ∧ True ∧ ((yesP p ∧ plainP p ∧ readB p = true) ∧ True) ∧ True ∧ True ∧ True ∧ True ∧ True ∧ True ∧ True ∧ True ∧ (¬(0 : Int) = 0 → True ∧ True ∧ True ∧ (false = true ∧ True) ∧ True) ∧ (¬¬(0 : Int) = 0 → True ∧ True ∧ ((isPoly p ∧ plainP p) ∧ True) ∧ True ∧ True ∧ (false = true → True ∧ True ∧ (false = true ∧ True) ∧ True) ∧ (false = false → True ∧ ((yesP p ∧ plainP p ∧ readB p = true) ∧ True) ∧ True ∧ True ∧ True ∧ True ∧ True ∧ True ∧ True ∧ True ∧ True ∧ True ∧ True ∧ True ∧ True ∧ True ∧ (¬(0 : Int) = 0 → True ∧ True ∧ True ∧ True ∧ True ∧ True ∧ True ∧ True ∧ True ∧ (false = true ∧ True) ∧ True) ∧ (¬¬(0 : Int) = 0 → True ∧ True ∧ True ∧ True ∧ (¬(0 : Int) = 0 → True ∧ True ∧ True ∧ True ∧ True ∧ True ∧ True ∧ (false = true ∧ True) ∧ True) ∧ (¬¬(0 : Int) = 0 → True ∧ True ∧ True ∧ True ∧ True ∧ True ∧ (¬(↑(readL p).length : Int) = (↑(readL p).length : Int) → True ∧ True ∧ True ∧ True ∧ True ∧ (false = true ∧ True) ∧ True) ∧ (¬¬(↑(readL p).length : Int) = (↑(readL p).length : Int) → True ∧ True ∧ True ∧ True ∧ True ∧ True ∧ (¬(↑(readL p).length : Int) = (↑(readL p).length : Int) → True ∧ True ∧ True ∧ (false = true ∧ True) ∧ True) ∧ (¬¬(↑(readL p).length : Int) = (↑(readL p).length : Int) → True ∧ True ∧ (((isPoly p ∧ (readL p).length < 1000000) ∧ rdR p (0 : Int) (readL p)) ∧ True) ∧ True ∧ True ∧ True ∧ True ∧ inR .i64 ((p.length : Int) + 1) ∧ ((0 : Int) ≤ (p.length : Int) + 1 ∧ (p.length : Int) + 1 ≤ (p.length : Int) + 1 ∧ ((p.length : Int) + 1) * (↑(nat_lit 8) : Int) ≤ 140737488355328 ∧ (p.length : Int) + 1 ≤ 140737488355328) ∧ True ∧ True ∧ LoopOK (Xw E4C hs4) L4_3 { J := chk (0 : Nat) [(3 : Nat), (4 : Nat), (13 : Nat), (14 : Nat)] (inv4b p) (st4b p i), exits := List.map (fun (x : List Nat × Ex) => x.snd) (ex4b p i) } (bodyR (X E4L).m0 ex4 (RetR (X E4L) true false [ResultVar.tmp (2 : Tmp)] [AV.tt] [])) ∧ (∃ (y : Nat × List Int), inv4b p y ∧ (p = p ∧ (i : Int) = (i : Int) ∧ True ∧ (0 : Int) = (y.fst : Int) ∧ True) ∧ List.replicate (p.length + 1) (Ty.int .i64).dflt = y.snd ∧ True) ∧ (∀ (y : List Int), y.length = p.length + 1 → True ∧ (y.length + 1 ≤ 1000000 ∧ True) ∧ True ∧ ((!decide (isPoly y)) = true → ∃ (y : Unit), True ∧ True ∧ True) ∧ ((!decide (isPoly y)) = false → True ∧ True ∧ True ∧ inR .i64 ((i : Int) + 1) ∧ True ∧ ((∃ (y : Unit), (True ∧ (3 : Nat) < 2 - i) ∧ (False ∧ (i : Int) + 1 = 0 ∧ True) ∧ True) ∨ ∃ (y_1 : Nat × List Int), (((1 : Nat) ≤ y_1.fst ∧ y_1.fst ≤ 2 ∧ isPoly y_1.snd) ∧ (2 : Nat) - y_1.fst < 2 - i) ∧ (True ∧ (i : Int) + 1 = (y_1.fst : Int) ∧ True) ∧ y = y_1.snd ∧ True))) ∧ True))))))) ∧ (¬(i : Int) < 2 → ∃ (y : Unit), True ∧ True ∧ True)) (by kernel_rfl) ?_
       simp only [true_and, and_true, false_and, and_false, or_false, false_or, exists_const, not_true_eq_false, not_false_eq_true, true_imp_iff, false_imp_iff, implies_true, rat_num_den, Int.toNat_natCast]
       refine fun h2 => ?_
       have hfin : ∀ y : List Int, y.length = List.length p + 1 → y.length + 1 ≤ 1000000 ∧ ((!decide (isPoly y)) = false → inR .i64 ((i : Int) + 1) ∧ ∃ z : Nat × List Int, ((1 ≤ z.1 ∧ z.1 ≤ 2 ∧ isPoly z.2) ∧ 2 - z.1 < 2 - i) ∧ (i : Int) + 1 = (z.1 : Int) ∧ y = z.2) := fun y hy => ⟨by omega, fun h => ⟨by simp only [inR]; omega, (i + 1, y), ⟨⟨by dsimp only; omega, by dsimp only; omega, by simpa using h⟩, by dsimp only; omega⟩, by dsimp only; omega, rfl⟩⟩
       repeat' first | exact hL _ | exact hin | exact hfin | assumption | omega | exact ⟨hp, hc⟩ | (simp only [inR]; omega) | exact fun h => h | intro _ | refine And.intro ?_ ?_
     · have hr : readB p = false := by simpa using hr
       refine ⟨Xw E4B hs4, Xw_ok _ _, rfl, rfl, rfl, rfl, ?_⟩
       have hL : ∀ R, LoopOK (Xw E4B hs4) L4_3 ⟨chk 0 [3, 4, 13, 14] (inv4b p) (st4b p i), (ex4b p i).map (·.2)⟩ R := fun R => loop4b p i hp R
       have hC : pB p := ⟨hy, hc, hr⟩
       have hD := hC
       unfold pB at hD
       refine of_eq (q := True ∧ True ∧ ((i : Int) < 2 → True ∧ ((yesP p ∧ plainP p) ∧ True) ∧ True ∧ True ∧ True ∧ True ∧ True ∧ True ∧ ((yesP p ∧ plainP p ∧ readB p = false) ∧ True) ∧ True ∧ True ∧ True ∧ True ∧ True ∧ True ∧ ((yesP p ∧ plainP p ∧ readB p = false) ∧ True) ∧ True ∧ True ∧ True ∧ True ∧ True ∧ True ∧ True ∧ True ∧ (¬(0 : Int) = 0 → True ∧ True ∧ True ∧ (false = true ∧ True) ∧ True) ∧ (¬¬(0 : Int) = 0 → True ∧ True ∧ ((isPoly p ∧ plainP p) ∧ True) ∧ True ∧ True ∧ (false = true → True ∧ True ∧ (false = true ∧ True) ∧ True) ∧ (false = false → True ∧ ((yesP p ∧ plainP p ∧ readB p = false) ∧ True) ∧ True ∧ True ∧ True ∧ True ∧ True ∧ True ∧ True ∧ True ∧ True ∧ True ∧ True ∧ True ∧ True ∧ True ∧ (¬(8 : Int) = 8 → True ∧ True ∧ True ∧ True ∧ True ∧ (false = true ∧ True) ∧ True) ∧ (¬¬(8 : Int) = 8 → True ∧ True ∧ True ∧ True ∧ (¬(8 : Int) = 8 → True ∧ True ∧ True ∧ (false = true ∧ True) ∧ True) ∧ (¬¬(8 : Int) = 8 → True ∧ True ∧ True ∧ inR .i64 (0 : Int) ∧ True ∧ True ∧ (¬(0 : Int) = 0 → True ∧ True ∧ (false = true ∧ True) ∧ True) ∧ (¬¬(0 : Int) = 0 → True ∧ True ∧ inR .i64 ((p.length : Int) + 1) ∧ ((0 : Int) ≤ (p.length : Int) + 1 ∧ (p.length : Int) + 1 ≤ (p.length : Int) + 1 ∧ ((p.length : Int) + 1) * (↑(nat_lit 8) : Int) ≤ 140737488355328 ∧ (p.length : Int) + 1 ≤ 140737488355328) ∧ True ∧ True ∧ LoopOK (Xw E4B hs4) L4_3 { J := chk (0 : Nat) [(3 : Nat), (4 : Nat), (13 : Nat), (14 : Nat)] (inv4b p) (st4b p i), exits := List.map (fun (x : List Nat × Ex) => x.snd) (ex4b p i) } (bodyR (X E4L).m0 ex4 (RetR (X E4L) true false [ResultVar.tmp (2 : Tmp)] [AV.tt] [])) ∧ (∃ (y : Nat × List Int), inv4b p y ∧ (p = p ∧ (i : Int) = (i : Int) ∧ True ∧ (0 : Int) = (y.fst : Int) ∧ True) ∧ List.replicate (p.length + 1) (Ty.int .i64).dflt = y.snd ∧ True) ∧ (∀ (y : List Int), y.length = p.length + 1 → True ∧ (y.length + 1 ≤ 1000000 ∧ True) ∧ True ∧ ((!decide (isPoly y)) = true → ∃ (y : Unit), True ∧ True ∧ True) ∧ ((!decide (isPoly y)) = false → True ∧ True ∧ True ∧ inR .i64 ((i : Int) + 1) ∧ True ∧ ((∃ (y : Unit), (True ∧ (3 : Nat) < 2 - i) ∧ (False ∧ (i : Int) + 1 = 0 ∧ True) ∧ True) ∨ ∃ (y_1 : Nat × List Int), (((1 : Nat) ≤ y_1.fst ∧ y_1.fst ≤ 2 ∧ isPoly y_1.snd) ∧ (2 : Nat) - y_1.fst < 2 - i) ∧ (True ∧ (i : Int) + 1 = (y_1.fst : Int) ∧ True) ∧ y = y_1.snd ∧ True))) ∧ True)))))) ∧ (¬(i : Int) < 2 → ∃ (y : Unit), True ∧ True ∧ True)) (by kernel_rfl) ?_
       simp only [true_and, and_true, false_and, and_false, or_false, false_or, exists_const, not_true_eq_false, not_false_eq_true, true_imp_iff, false_imp_iff, implies_true, rat_num_den, Int.toNat_natCast]
       refine fun h2 => ?_
       have hfin : ∀ y : List Int, y.length = List.length p + 1 → y.length + 1 ≤ 1000000 ∧ ((!decide (isPoly y)) = false → inR .i64 ((i : Int) + 1) ∧ ∃ z : Nat × List Int, ((1 ≤ z.1 ∧ z.1 ≤ 2 ∧ isPoly z.2) ∧ 2 - z.1 < 2 - i) ∧ (i : Int) + 1 = (z.1 : Int) ∧ y = z.2) := fun y hy => ⟨by omega, fun h => ⟨by simp only [inR]; omega, (i + 1, y), ⟨⟨by dsimp only; omega, by dsimp only; omega, by simpa using h⟩, by dsimp only; omega⟩, by dsimp only; omega, rfl⟩⟩
       repeat' first | exact hL _ | exact hin | exact hfin | assumption | omega | exact ⟨hp, hc⟩ | (simp only [inR]; omega) | exact fun h => h | intro _ | refine And.intro ?_ ?_
   · refine ⟨Xw E4A hs4, Xw_ok _ _, rfl, rfl, rfl, rfl, ?_⟩
     have hL : ∀ R, LoopOK (Xw E4A hs4) L4_3 ⟨chk 0 [3, 4, 13, 14] (inv4b p) (st4b p i), (ex4b p i).map (·.2)⟩ R := fun R => loop4b p i hp R
     have hC : pA p := ⟨hy, hc⟩
     have hD := hC
     unfold pA at hD
     refine of_eq (q := True ∧ True ∧ ((i : Int) < 2 → True ∧ ((yesP p ∧ ¬plainP p) ∧ True) ∧ True ∧ True ∧ True ∧ True ∧ True ∧ True ∧ ((yesP p ∧ ¬plainP p) ∧ True) ∧ True ∧ True ∧ True ∧ True ∧ True ∧ True ∧ ((yesP p ∧ ¬plainP p) ∧ True) ∧ True ∧ True ∧ True ∧ True ∧ True ∧ True ∧ True ∧ True ∧ (¬(0 : Int) = 0 → True ∧ True ∧ True ∧ (false = true ∧ True) ∧ True) ∧ (¬¬(0 : Int) = 0 → True ∧ True ∧ ((yesP p ∧ ¬plainP p) ∧ True) ∧ True ∧ True ∧ (false = true → True ∧ True ∧ (false = true ∧ True) ∧ True) ∧ (false = false → True ∧ (((1 : Nat) ≤ p.length ∧ p.length ≤ 7 ∧ coefs p) ∧ True) ∧ True ∧ True ∧ True ∧ True ∧ True ∧ True ∧ True ∧ True ∧ True ∧ True ∧ True ∧ (¬(4 : Int) = 4 → True ∧ True ∧ True ∧ True ∧ True ∧ (false = true ∧ True) ∧ True) ∧ (¬¬(4 : Int) = 4 → True ∧ True ∧ True ∧ True ∧ (¬(4 : Int) = 4 → True ∧ True ∧ True ∧ (false = true ∧ True) ∧ True) ∧ (¬¬(4 : Int) = 4 → True ∧ True ∧ True ∧ inR .i64 (0 : Int) ∧ True ∧ True ∧ (¬(0 : Int) = 0 → True ∧ True ∧ (false = true ∧ True) ∧ True) ∧ (¬¬(0 : Int) = 0 → True ∧ True ∧ inR .i64 ((p.length : Int) + 1) ∧ ((0 : Int) ≤ (p.length : Int) + 1 ∧ (p.length : Int) + 1 ≤ (p.length : Int) + 1 ∧ ((p.length : Int) + 1) * (↑(nat_lit 8) : Int) ≤ 140737488355328 ∧ (p.length : Int) + 1 ≤ 140737488355328) ∧ True ∧ True ∧ LoopOK (Xw E4A hs4) L4_3 { J := chk (0 : Nat) [(3 : Nat), (4 : Nat), (13 : Nat), (14 : Nat)] (inv4b p) (st4b p i), exits := List.map (fun (x : List Nat × Ex) => x.snd) (ex4b p i) } (bodyR (X E4L).m0 ex4 (RetR (X E4L) true false [ResultVar.tmp (2 : Tmp)] [AV.tt] [])) ∧ (∃ (y : Nat × List Int), inv4b p y ∧ (p = p ∧ (i : Int) = (i : Int) ∧ True ∧ (0 : Int) = (y.fst : Int) ∧ True) ∧ List.replicate (p.length + 1) (Ty.int .i64).dflt = y.snd ∧ True) ∧ (∀ (y : List Int), y.length = p.length + 1 → True ∧ (y.length + 1 ≤ 1000000 ∧ True) ∧ True ∧ ((!decide (isPoly y)) = true → ∃ (y : Unit), True ∧ True ∧ True) ∧ ((!decide (isPoly y)) = false → True ∧ True ∧ True ∧ inR .i64 ((i : Int) + 1) ∧ True ∧ ((∃ (y : Unit), (True ∧ (3 : Nat) < 2 - i) ∧ (False ∧ (i : Int) + 1 = 0 ∧ True) ∧ True) ∨ ∃ (y_1 : Nat × List Int), (((1 : Nat) ≤ y_1.fst ∧ y_1.fst ≤ 2 ∧ isPoly y_1.snd) ∧ (2 : Nat) - y_1.fst < 2 - i) ∧ (True ∧ (i : Int) + 1 = (y_1.fst : Int) ∧ True) ∧ y = y_1.snd ∧ True))) ∧ True)))))) ∧ (¬(i : Int) < 2 → ∃ (y : Unit), True ∧ True ∧ True)) (by kernel_rfl) ?_
     simp only [true_and, and_true, false_and, and_false, or_false, false_or, exists_const, not_true_eq_false, not_false_eq_true, true_imp_iff, false_imp_iff, implies_true, rat_num_den, Int.toNat_natCast]
     refine fun h2 => ?_
     have hfin : ∀ y : List Int, y.length = List.length p + 1 → y.length + 1 ≤ 1000000 ∧ ((!decide (isPoly y)) = false → inR .i64 ((i : Int) + 1) ∧ ∃ z : Nat × List Int, ((1 ≤ z.1 ∧ z.1 ≤ 2 ∧ isPoly z.2) ∧ 2 - z.1 < 2 - i) ∧ (i : Int) + 1 = (z.1 : Int) ∧ y = z.2) := fun y hy => ⟨by omega, fun h => ⟨by simp only [inR]; omega, (i + 1, y), ⟨⟨by dsimp only; omega, by dsimp only; omega, by simpa using h⟩, by dsimp only; omega⟩, by dsimp only; omega, rfl⟩⟩
     repeat' first | exact hL _ | exact hin | exact hfin | assumption | omega | exact ⟨hp, hc⟩ | (simp only [inR]; omega) | exact fun h => h | intro _ | refine And.intro ?_ ?_
theorem call4 (l : List Int) (h : l.length < 1000000000000000) : GCall Tryd.prog gl 4 true [.sl I64 l] [] [.tt] [] := by
 refine gcall_of (X := (X E4L)) ((X_ok E4L)) (f := 4) (fn := Tryd.f4) (c := bodyOf Tryd.f4) (by kernel_rfl) (by kernel_rfl) (view := false) (rvs := [.tmp 2]) (by kernel_rfl) (H := (H4 l)) 200 (by kernel_rfl) ?_
 have hL := loop4 l
 refine of_eq (q := True ∧ True ∧ (l.length + 1 ≤ 1000000000000000 ∧ True) ∧ True ∧ True ∧ LoopOK (X E4L) L4_0 { J := chks (0 : Nat) [(3 : Nat), (4 : Nat)] (fm4 l), exits := List.map (fun (x : List Nat × Ex) => x.snd) ex4 } (RetR (X E4L) true false [ResultVar.tmp (2 : Tmp)] [AV.tt] []) ∧ ((∃ (y : Unit), True ∧ (tmL l = tmL l ∧ (0 : Int) = 0 ∧ True) ∧ True) ∨ ∃ (y : Nat × List Int), ((1 : Nat) ≤ y.fst ∧ y.fst ≤ 2 ∧ isPoly y.snd) ∧ (False ∧ (0 : Int) = (y.fst : Int) ∧ True) ∧ False) ∧ (∀ (y : Unit), True → (True ∧ True) ∧ True ∧ True ∧ (true = true ∧ True) ∧ True) ∧ True) (by kernel_rfl) ?_
 simp only [true_and, and_true, false_and, and_false, or_false, false_or, exists_const, exists_false, rat_num_den, rat_int, Int.toNat_natCast]
 exact ⟨by omega, hL, fun _ _ => trivial⟩
end Go.Am.Bern

/- Bern: from the laws' contracts to the given statements: what all laws share. -/
namespace Go.Proofs.YtjmfgoemdkfldaaDoor
open Go Go.ChangeShapes Go.WideShapes Go.ChangeAt Go.RowKit Go.Am Go.Am.Bern
theorem own : ownKnob Tryd.prog.godebug = none := by kernel_rfl
theorem laidOut : laidOutB Tryd.prog = true := by kernel_rfl
theorem u3 : Tryd.prog.underlying 3 = some (.int .i64) := by kernel_rfl
theorem u4 : Tryd.prog.underlying 4 = some .bool := by kernel_rfl
theorem u22 : Tryd.prog.underlying 22 = some (.slice 3) := by kernel_rfl
theorem tyOk22 : TyOk Tryd.prog 22 (.sl I64) := ⟨3, u22, u3, by kernel_rfl, by decide, of_decide_eq_true (by kernel_rfl)⟩
theorem u2 : Tryd.prog.underlying 2 = some (.int .i64) := by kernel_rfl
def laidW : List (String × DataW Unit) := [("girouette/bern.whole", Rows.laid_girouette_bern_whole)]
theorem door_met (os : Os) (args : Array Value) : laidMetH Tryd.prog laidW ((World.doorLaid Tryd.prog 400 os).forCall (fun _ _ => 0) ⟨#[], args, []⟩).memory :=
 laidMetH_of_parts3 (fuel := 8) (laidMet_of_run' 8 (by kernel_rfl) (by kernel_rfl)) (by kernel_rfl) (by kernel_rfl)
theorem reach_le {l : List Nat} (h : l.all (fun x => decide (x ≤ reachBytes)) = true) : ∀ n ∈ l, n ≤ 140737488355328 := fun n hn => by
 have := of_decide_eq_true (List.all_eq_true.mp h n hn)
 have e : reachBytes = 140737488351232 := rfl
 omega
theorem gWhole : Tryd.prog.globalNamed "girouette/bern.whole" = some 0 := by kernel_rfl
theorem tWhole : (Tryd.prog.globals[0]?).map (·.type) = some 87 := by kernel_rfl
set_option maxRecDepth 100000 in
theorem glob_of {W : World} (h : laidMetH Tryd.prog laidW W) : GlobOk gl (fun b => b < W.heap.size) W := by
 rw [MakeChecks.laidMetH_plain _ _ _ (by kernel_rfl)] at h
 obtain ⟨ps, ⟨g0, t0, cs0, f0, p0, q0, hg0, ht0, hv0, hd0, _, _⟩, _, _⟩ := h
 obtain rfl := Option.some.inj (gWhole.symm.trans hg0)
 obtain rfl := Option.some.inj (tWhole.symm.trans ht0)
 have hU : ∃ d, Tryd.prog.underlying 87 = some d ∧ dsOf d = .st [(0, 3), (1, 3)] := TI.Ok.under ti87_ok
 obtain ⟨d, hu, hd⟩ := hU
 obtain ⟨fs, rfl, hfs⟩ : ∃ fs, d = .struct fs ∧ fs.toList.map (fun f => (f.offset, f.type)) = [(0, 3), (1, 3)] := by
   cases d <;> simp [dsOf] at hd
   exact ⟨_, rfl, hd⟩
 obtain ⟨xs, n, rfl, hx, hl, hn, hel⟩ := DataW.trod_struct hu hd0
 obtain ⟨fs⟩ := fs
 match fs, hfs, hn, hel with
 | [a, b], hfs, hn, hel =>
 simp only [List.map_cons, List.map_nil, List.cons.injEq, Prod.mk.injEq] at hfs
 obtain ⟨⟨a1, a2⟩, ⟨b1, b2⟩, _⟩ := hfs
 have e0 := hel 0 a rfl
 have e1 := hel 1 b rfl
 have c3 : Tryd.prog.cellsOf 3 = 1 := by kernel_rfl
 have c87 : Tryd.prog.cellsOf 87 = 2 := by kernel_rfl
 rw [a1, a2, c3] at e0
 rw [b1, b2, c3] at e1
 rw [c87] at hl
 obtain ⟨ls⟩ := cs0
 match xs, hn, hx, ls, hl, e0, e1, hv0 with
 | [y0, y1], _, hx, [c0, c1], _, e0, e1, hv0 =>
 simp only [Rows.laid_girouette_bern_whole, List.map_cons, List.map_nil, Prod.mk.injEq, DataW.agg.injEq, List.cons.injEq] at hx
 obtain ⟨n0, k0, k1, _⟩ := DataW.trod_int u3 (show DataW.trod _ Tryd.prog W 0 _ false n 3 [c0] = some y0 from e0)
 obtain ⟨n1, l0, l1, _⟩ := DataW.trod_int u3 (show DataW.trod _ Tryd.prog W 0 _ false n 3 [c1] = some y1 from e1)
 have z0 : n0 = 0 := by rw [k1] at hx; simpa using hx.1.1.symm
 have z1 : n1 = 0 := by rw [l1] at hx; simpa using hx.1.2.1.symm
 subst z0 z1
 have w0 := World.var?_cell hg0 hv0 0
 have w1 := World.var?_cell hg0 hv0 1
 simp only [List.cons.injEq, and_true] at k0 l0
 subst k0 l0
 have w0 : W.cell? ⟨0, 0, none⟩ = some (.int .i64 0) := by simpa using w0
 have w1 : W.cell? ⟨0, 1, none⟩ = some (.int .i64 0) := by simpa using w1
 intro g p hp
 match g, hp with
 | 0, hp =>
   have hp : p = ⟨.s2 (.int .i64) (.int .i64), ((0 : Int), (0 : Int))⟩ := (Option.some.inj hp).symm
   subst hp
   refine ⟨cell_lt w0, [.int .i64 0, .int .i64 0], by simp only [CD]; exact ⟨_, _, rfl, rfl, rfl⟩, fun j hj => ?_⟩
   match j, hj with
   | 0, _ => exact w0
   | 1, _ => exact w1
end Go.Proofs.YtjmfgoemdkfldaaDoor
