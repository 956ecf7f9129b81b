/- Part B5 of the proof that the law named in the last file returns true at every input and leaves its arguments as they were; no condition of its own. -/
import Derived.Test.YtjmfgoemdkfldaaDoorB4
import Derived.Test.YtjmfgoemdkfldaaDoorA2
import Derived.Test.YtjmfgoemdkfldaaDoorB3
import Derived.Test.YtjmfgoemdkfldaaDoorRows
import Derived.WalkKit
import Derived.ProofKit
import Derived.OpenShut
import Derived.LaidMore
import Derived.ChangeOld
import Derived.Below
import Derived.SevenTiedAt
import Derived.Stop.Joined
set_option linter.unusedSimpArgs false
set_option linter.unusedVariables false
/- Bern: Positive, Roots, Count. -/
namespace Go.Am.Bern
open Go Go.Am Go.Proofs
def get63 (_ : List AV) (obs : List Ob) : Option (List Int × Memo) :=
 match obs with
 | [c, m] => (match unCv c, unMm m with
   | some p, some m => some (p, m)
   | _, _ => none)
 | _ => none
theorem en63 : Enters Tryd.prog 63 := ⟨Tryd.f63, by kernel_rfl, by kernel_rfl, by kernel_rfl⟩
noncomputable def e63N : Entry Tryd.prog gl := entryW 63 en63 true get63 (fun x => isPoly x.1 ∧ memoOk x.1 x.2 ∧ P71.coverB x.1 = false) false (fun _ => P71.a63) (fun x => [cvO x.1, mmO x.2]) (fun _ => [nl]) (fun x => [cvO x.1, mmO (P71.coverM x.1 x.2)]) (fun x h => P71.call63N x.1 x.2 h.1 h.2.1 h.2.2)
noncomputable def e63O : Entry Tryd.prog gl := entryW 63 en63 true get63 (fun x => isPoly x.1 ∧ memoOk x.1 x.2 ∧ P71.coverB x.1 = true) false (fun _ => P71.a63) (fun x => [cvO x.1, mmO x.2]) (fun _ => [.own 2 0]) (fun x => [cvO x.1, mmO (P71.coverM x.1 x.2), pieO 0 (P71.coverL x.1)]) (fun x h => P71.call63O x.1 x.2 h.1 h.2.1 h.2.2)
noncomputable def e63n : Entry Tryd.prog gl := entryW 63 en63 true get63 (fun x => isPoly x.1 ∧ memoOk x.1 x.2 ∧ P64.coverB x.1 = false) false (fun _ => P64.a63) (fun x => [cvO x.1, mmO x.2]) (fun _ => [nl]) (fun x => [cvO x.1, mmO (P64.coverM x.1 x.2)]) (fun x h => P64.call63N x.1 x.2 h.1 h.2.1 h.2.2)
noncomputable def e63o : Entry Tryd.prog gl := entryW 63 en63 true get63 (fun x => isPoly x.1 ∧ memoOk x.1 x.2 ∧ P64.coverB x.1 = true) false (fun _ => P64.a63) (fun x => [cvO x.1, mmO x.2]) (fun _ => [.own 2 0]) (fun x => [cvO x.1, mmO (P64.coverM x.1 x.2), pieO 0 (P64.coverL x.1)]) (fun x h => P64.call63O x.1 x.2 h.1 h.2.1 h.2.2)
def posB (p : List Int) : Bool := decide (isPoly p) && P71.coverB p
def posK (p : List Int) : List PQ := if posB p then P71.coverL p else []
theorem errOf_pos {p : List Int} (h : ¬ errOf p = 0) : ¬ isPoly p := fun hp => h (by simp [errOf, hp])
theorem errOf_zero {p : List Int} (h : ¬¬ errOf p = 0) : isPoly p := by
 false_or_by_contra; rename_i hn; exact h (by simp [errOf, hn])
theorem call26 (p : List Int) (h : p.length < 1000000) : GCall Tryd.prog gl 26 false [.sl I64 p] [] [.bool (posB p), .sl Q2 (posK p), .int .i64 (errOf p)] [] := by
 have hlen : (P71.coverL p).length ≤ 64 := grL_len _ p 6 0 0
 by_cases hb : P71.coverB p = true
 · refine gcall_of (X := (Xd [e56, e62, e66, e63O] (drOf [(4, 1000000)]))) ((Xd_ok _ _)) (f := 26) (fn := Tryd.f26) (c := bodyOf Tryd.f26) (by kernel_rfl) (by kernel_rfl) (view := true) (rvs := [.tmp 2, .tmp 3, .tmp 4]) (by kernel_rfl) (H := fun _ => none) 80 (by kernel_rfl) ?_
   refine of_eq (q := True ∧ True ∧ True ∧ True ∧ (p.length + 1 ≤ 1000000 ∧ True) ∧ True ∧ True ∧ True ∧ (¬errOf p = 0 → True ∧ True ∧ True ∧ True ∧ True ∧ (false = posB p ∧ ([] : List (Int × Int)) = posK p ∧ errOf p = errOf p ∧ True) ∧ True) ∧ (¬¬errOf p = 0 → ((True ∧ ((True ∧ True) ∧ (True ∧ ((((isPoly p ∧ memoOk p [] ∧ P71.coverB p = true) ∧ (True ∧ ((0 : Int) = 0 ∧ (0 : Int) = 0 ∧ True) ∧ (True ∧ True) ∧ True) ∧ (p = p ∧ True ∧ True) ∧ ([] : List ((Int × Int) × List (Int × Int))) = [] ∧ True) ∧ True ∧ True ∧ True) ∧ (True ∧ (p = p ∧ false = false ∧ True ∧ (0 : Int) = 0 ∧ errOf p = errOf p ∧ True ∧ p = p ∧ errOf p = errOf p ∧ errOf p = errOf p ∧ false = false ∧ p = p ∧ True ∧ ((0 : Int) = 0 ∧ (0 : Int) = 0 ∧ True) ∧ True ∧ True) ∧ (p = p ∧ True ∧ True) ∧ P71.coverM p [] = P71.coverM p [] ∧ P71.coverL p = P71.coverL p ∧ True) ∧ True) ∧ True) ∧ True) ∧ (True ∧ ((True ∧ True) ∧ ((((isPoly p ∧ memoOk p [] ∧ P71.coverB p = true) ∧ (True ∧ ((0 : Int) = 0 ∧ (0 : Int) = 0 ∧ True) ∧ (True ∧ True) ∧ True) ∧ (p = p ∧ True ∧ True) ∧ ([] : List ((Int × Int) × List (Int × Int))) = [] ∧ True) ∧ True ∧ True ∧ True) ∧ (True ∧ (p = p ∧ false = false ∧ True ∧ (0 : Int) = 0 ∧ errOf p = errOf p ∧ True ∧ p = p ∧ errOf p = errOf p ∧ errOf p = errOf p ∧ false = false ∧ p = p ∧ True ∧ ((0 : Int) = 0 ∧ (0 : Int) = 0 ∧ True) ∧ True ∧ True) ∧ (p = p ∧ True ∧ True) ∧ P71.coverM p [] = P71.coverM p [] ∧ P71.coverL p = P71.coverL p ∧ True) ∧ True) ∧ True) ∧ True) ∧ True) ∧ (True ∧ (True ∧ ((True ∧ True) ∧ ((((isPoly p ∧ memoOk p [] ∧ P71.coverB p = true) ∧ (True ∧ ((0 : Int) = 0 ∧ (0 : Int) = 0 ∧ True) ∧ (True ∧ True) ∧ True) ∧ (p = p ∧ True ∧ True) ∧ ([] : List ((Int × Int) × List (Int × Int))) = [] ∧ True) ∧ True ∧ True ∧ True) ∧ (True ∧ (p = p ∧ false = false ∧ True ∧ (0 : Int) = 0 ∧ errOf p = errOf p ∧ True ∧ p = p ∧ errOf p = errOf p ∧ errOf p = errOf p ∧ false = false ∧ p = p ∧ True ∧ ((0 : Int) = 0 ∧ (0 : Int) = 0 ∧ True) ∧ True ∧ True) ∧ (p = p ∧ True ∧ True) ∧ P71.coverM p [] = P71.coverM p [] ∧ P71.coverL p = P71.coverL p ∧ True) ∧ True) ∧ True) ∧ True) ∧ True) ∧ True) ∧ True ∧ True ∧ True ∧ ((P71.coverL p).length + 1 ≤ 1000000 ∧ True) ∧ True ∧ True ∧ True ∧ True ∧ (true = posB p ∧ P71.coverL p = posK p ∧ (0 : Int) = errOf p ∧ True) ∧ True)) (by kernel_rfl) ?_
   simp only [zz]
   refine ⟨by omega, fun he => ?_, fun he => ?_⟩
   · have := errOf_pos he
     simp [posK, posB, this]
   · have hp := errOf_zero he
     exact ⟨⟨⟨⟨hp, memoOk_nil p, hb⟩, ⟨hp, memoOk_nil p, hb⟩⟩, ⟨hp, memoOk_nil p, hb⟩⟩, by omega, by simp [posB, hp, hb], by simp [posK, posB, hp, hb], by simp [errOf, hp]⟩
 · have hb : P71.coverB p = false := by simpa using hb
   refine gcall_of (X := (Xd [e56, e62, e66, e63N] (drOf [(4, 1000000)]))) ((Xd_ok _ _)) (f := 26) (fn := Tryd.f26) (c := bodyOf Tryd.f26) (by kernel_rfl) (by kernel_rfl) (view := true) (rvs := [.tmp 2, .tmp 3, .tmp 4]) (by kernel_rfl) (H := fun _ => none) 80 (by kernel_rfl) ?_
   refine of_eq (q := True ∧ True ∧ True ∧ True ∧ (p.length + 1 ≤ 1000000 ∧ True) ∧ True ∧ True ∧ True ∧ (¬errOf p = 0 → True ∧ True ∧ True ∧ True ∧ True ∧ (false = posB p ∧ ([] : List (Int × Int)) = posK p ∧ errOf p = errOf p ∧ True) ∧ True) ∧ (¬¬errOf p = 0 → ((True ∧ ((True ∧ True) ∧ (True ∧ ((((isPoly p ∧ memoOk p [] ∧ P71.coverB p = false) ∧ (True ∧ ((0 : Int) = 0 ∧ (0 : Int) = 0 ∧ True) ∧ (True ∧ True) ∧ True) ∧ (p = p ∧ True ∧ True) ∧ ([] : List ((Int × Int) × List (Int × Int))) = [] ∧ True) ∧ True ∧ True ∧ True) ∧ (True ∧ (p = p ∧ false = false ∧ True ∧ (0 : Int) = 0 ∧ errOf p = errOf p ∧ True ∧ p = p ∧ errOf p = errOf p ∧ errOf p = errOf p ∧ false = false ∧ p = p ∧ True ∧ ((0 : Int) = 0 ∧ (0 : Int) = 0 ∧ True) ∧ True ∧ True) ∧ (p = p ∧ True ∧ True) ∧ P71.coverM p [] = P71.coverM p [] ∧ True) ∧ True) ∧ True) ∧ True) ∧ (True ∧ ((True ∧ True) ∧ ((((isPoly p ∧ memoOk p [] ∧ P71.coverB p = false) ∧ (True ∧ ((0 : Int) = 0 ∧ (0 : Int) = 0 ∧ True) ∧ (True ∧ True) ∧ True) ∧ (p = p ∧ True ∧ True) ∧ ([] : List ((Int × Int) × List (Int × Int))) = [] ∧ True) ∧ True ∧ True ∧ True) ∧ (True ∧ (p = p ∧ false = false ∧ True ∧ (0 : Int) = 0 ∧ errOf p = errOf p ∧ True ∧ p = p ∧ errOf p = errOf p ∧ errOf p = errOf p ∧ false = false ∧ p = p ∧ True ∧ ((0 : Int) = 0 ∧ (0 : Int) = 0 ∧ True) ∧ True ∧ True) ∧ (p = p ∧ True ∧ True) ∧ P71.coverM p [] = P71.coverM p [] ∧ True) ∧ True) ∧ True) ∧ True) ∧ True) ∧ (True ∧ (True ∧ ((True ∧ True) ∧ ((((isPoly p ∧ memoOk p [] ∧ P71.coverB p = false) ∧ (True ∧ ((0 : Int) = 0 ∧ (0 : Int) = 0 ∧ True) ∧ (True ∧ True) ∧ True) ∧ (p = p ∧ True ∧ True) ∧ ([] : List ((Int × Int) × List (Int × Int))) = [] ∧ True) ∧ True ∧ True ∧ True) ∧ (True ∧ (p = p ∧ false = false ∧ True ∧ (0 : Int) = 0 ∧ errOf p = errOf p ∧ True ∧ p = p ∧ errOf p = errOf p ∧ errOf p = errOf p ∧ false = false ∧ p = p ∧ True ∧ ((0 : Int) = 0 ∧ (0 : Int) = 0 ∧ True) ∧ True ∧ True) ∧ (p = p ∧ True ∧ True) ∧ P71.coverM p [] = P71.coverM p [] ∧ True) ∧ True) ∧ True) ∧ True) ∧ True) ∧ True) ∧ True ∧ True ∧ True ∧ ((1 : Nat) ≤ 1000000 ∧ True) ∧ True ∧ True ∧ True ∧ True ∧ (false = posB p ∧ ([] : List (Int × Int)) = posK p ∧ (0 : Int) = errOf p ∧ True) ∧ True)) (by kernel_rfl) ?_
   simp only [zz]
   refine ⟨by omega, fun he => ?_, fun he => ?_⟩
   · have := errOf_pos he
     simp [posK, posB, this]
   · have hp := errOf_zero he
     exact ⟨⟨⟨⟨hp, memoOk_nil p, hb⟩, ⟨hp, memoOk_nil p, hb⟩⟩, ⟨hp, memoOk_nil p, hb⟩⟩, by omega, by simp [posB, hp, hb], by simp [posK, posB, hp, hb], by simp [errOf, hp]⟩
def e26 : Entry Tryd.prog gl := entry1 26 ⟨Tryd.f26, by kernel_rfl, by kernel_rfl, by kernel_rfl⟩ SI (fun p => p.length < 1000000) false (fun p => [.bool (posB p), .sl Q2 (posK p), .int .i64 (errOf p)]) (fun _ => []) (call26)
def ob68 (p : List Int) (m : Memo) : List Ob := [.bx (.ptr 1 0 []), cvB p 2, mmO m]
def cgz (p : List Int) (q : PQ) : Bool := decide (chg (qc p q.1.toNat q.2.toNat) = 0)
def cmq (p : List Int) (m : Memo) (q : PQ) : Memo := cm p q.1.toNat q.2.toNat m
theorem call68 (p : List Int) (m : Memo) (q : PQ) (h : pre69 7 p m q) : GCall Tryd.prog gl 68 false [ofD FR q, .ptr 0 0 []] (ob68 p m) [.bool (cgz p q)] (ob68 p (cmq p m q)) := by
 refine gcall_of (X := (Xm [e69, e65] 3 (fun _ => none))) ((Xm_ok _ _ _)) (f := 68) (fn := Tryd.f68) (c := bodyOf Tryd.f68) (by kernel_rfl) (by kernel_rfl) (view := false) (rvs := [.tmp 3]) (by kernel_rfl) (H := fun _ => none) 80 (by kernel_rfl) ?_
 refine of_eq (q := True ∧ True ∧ True ∧ True ∧ ((isPoly p ∧ isPiece (q.fst, q.snd) ∧ q.fst < 7 ∧ memoOk p m) ∧ True ∧ True ∧ True) ∧ ((qc p (Int.toNat q.fst) (Int.toNat q.snd)).length + 1 ≤ 1000000 ∧ True) ∧ True ∧ True ∧ True ∧ (decide ((↑(chg (qc p (Int.toNat q.fst) (Int.toNat q.snd))) : Int) = 0) = cgz p q ∧ True) ∧ True ∧ (p = p ∧ True ∧ True) ∧ cm p (Int.toNat q.fst) (Int.toNat q.snd) m = cmq p m q ∧ True) (by kernel_rfl) ?_
 simp only [zz]
 have hln := qc_length p q.1.toNat q.2.toNat
 have := h.1.2.1
 refine ⟨⟨h.1, h.2.1, h.2.2.1, h.2.2.2⟩, by omega, ?_, rfl⟩
 unfold cgz; simp
def get68 (xs : List AV) (obs : List Ob) : Option (PQ × List Int × Memo) :=
 match xs with
 | [x, _] => (match toD FR x, unCvB (obs.getD 1 .gone), unMm (obs.getD 2 .gone) with
   | some q, some p, some m => some (q, p, m)
   | _, _, _ => none)
 | _ => none
theorem en68 : Enters Tryd.prog 68 := ⟨Tryd.f68, by kernel_rfl, by kernel_rfl, by kernel_rfl⟩
def e68 : Entry Tryd.prog gl := entryW 68 en68 true get68 (fun x => pre69 7 x.2.1 x.2.2 x.1) false (fun x => [ofD FR x.1, .ptr 0 0 []]) (fun x => ob68 x.2.1 x.2.2) (fun x => [.bool (cgz x.2.1 x.1)]) (fun x => ob68 x.2.1 (cmq x.2.1 x.2.2 x.1)) (fun x h => call68 x.2.1 x.2.2 x.1 h)
/-- Pieces of a list, one after the other. -/
def cms (p : List Int) (l : List PQ) (m : Memo) : Memo := l.foldl (cmq p) m
def pcs (p : List Int) (l : List PQ) : Prop := isPoly p ∧ l.length < 1000000 ∧ ∀ q ∈ l, isPiece q
theorem cmq_ok {p : List Int} {m : Memo} {q : PQ} (hm : memoOk p m) : memoOk p (cmq p m q) := cm_ok hm
theorem cms_ok {p : List Int} : ∀ {l : List PQ} {m : Memo}, memoOk p m → memoOk p (cms p l m)
 | [], m, h => h
 | q :: l, m, h => cms_ok (l := l) (cmq_ok h)
theorem cms_snoc (p : List Int) (l : List PQ) (q : PQ) (m : Memo) : cms p (l ++ [q]) m = cmq p (cms p l m) q := by simp [cms, List.foldl_append]
def zIdx (p : List Int) (l : List PQ) : Nat := l.findIdx (cgz p)
def zIdxR (p : List Int) (l : List PQ) : Int := if ∃ q ∈ l, cgz p q = true then (zIdx p l : Int) else -1
def obD (v : Nat) (l : List PQ) (p : List Int) (m : Memo) : List Ob := [pieO v l, .bx (.ptr 2 0 []), cvB p 3, mmO m]
def clo68 : AV := .clo 68 [] [.ptr 1 0 []]
theorem find_b {f : PQ → Bool} {l : List PQ} {k : Nat} (hk : k < l.length) (h : ∀ x ∈ l.take k, f x = false) (hx : f (l.getD k (0, 0)) = true) : l.findIdx f = k := by
 induction l generalizing k with
 | nil => simp at hk
 | cons a l ih =>
   cases k with
   | zero => simp at hx; simp [List.findIdx_cons, hx]
   | succ k =>
     have ha : f a = false := h a (by simp)
     rw [List.findIdx_cons, ha]
     simp only [cond_false]
     rw [ih (by simpa using hk) (fun x hx => h x (by simp [hx])) (by simpa using hx)]
theorem find_none {f : PQ → Bool} : ∀ {l : List PQ}, (∀ x ∈ l, f x = false) → l.findIdx f = l.length
 | [], _ => rfl
 | a :: l, h => by
   rw [List.findIdx_cons, h a (by simp)]
   simp only [cond_false]
   rw [find_none fun x hx => h x (by simp [hx])]; try rfl
theorem take_memD {l : List PQ} {k : Nat} {P : PQ → Prop} (hk : k < l.length) (h : ∀ q ∈ l.take k, P q) (hx : P (l.getD k (0, 0))) : ∀ q ∈ l.take (k + 1), P q := by
 rw [take_getD (d := (0, 0)) hk]
 intro q hq
 simp only [List.mem_append, List.mem_singleton] at hq
 rcases hq with hq | hq
 · exact h q hq
 · rw [hq]; exact hx
noncomputable def L93_0 : Code := lp (bodyOf Tryd.f93) 0
def inv93 (p : List Int) (l : List PQ) (k : Nat) : Prop := k ≤ l.length ∧ ∀ q ∈ l.take k, cgz p q = false
def st93 (p : List Int) (l : List PQ) (m : Memo) (k : Nat) : St := ⟨.own 0 0 :: clo68 :: .dead :: .dead :: .dead :: .dead :: .dead :: .int .i64 l.length :: .int .i64 k :: dd 10, obD 0 l p (cms p (l.take k) m)⟩
def ex93 (p : List Int) (l : List PQ) (m : Memo) : List (List Nat × Ex) := [([], ⟨0, Unit, fun _ => ∀ q ∈ l, cgz p q = false, fun _ => ⟨dd 19, obD 0 l p (cms p l m)⟩⟩)]
noncomputable def H93 (p : List Int) (l : List PQ) (m : Memo) : Nat → Option Hint := fun _ => some ⟨chk 4 [0, 1, 7, 8] (inv93 p l) (st93 p l m), (ex93 p l m).map (·.2)⟩
theorem loop93 (p : List Int) (l : List PQ) (m : Memo) (hp : pcs p l) (hm : memoOk p m) : LoopOK (Xm [e68] 4 (fun _ => none)) L93_0 ⟨chk 4 [0, 1, 7, 8] (inv93 p l) (st93 p l m), (ex93 p l m).map (·.2)⟩
   (RetR (Xm [e68] 4 (fun _ => none)) false false [.tmp 4] [.int .i64 (zIdxR p l)] (obD 0 l p (cms p (l.take (zIdx p l + 1)) m))) := by
 refine loop_ok (Xm_ok _ _ _) (H := fun _ _ => none) [0, 1, 7, 8] (inv93 p l) (st93 p l m) (fun k => l.length - k) (ex93 p l m) 90 fun (k : Nat) hk => ?_
 refine of_eq (q := True ∧ ((k : Int) < (l.length : Int) → True ∧ True ∧ True ∧ True ∧ True ∧ idxPre (k : Int) l.length ∧ True ∧ ((pre69 (7 : Int) p (cms p (List.take k l) m) ((l.getD k (0, 0)).fst, (l.getD k (0, 0)).snd) ∧ (((l.getD k (0, 0)).fst = (l.getD k (0, 0)).fst ∧ (l.getD k (0, 0)).snd = (l.getD k (0, 0)).snd ∧ True) ∧ True ∧ True) ∧ True ∧ (p = p ∧ True ∧ True) ∧ cms p (List.take k l) m = cms p (List.take k l) m ∧ True) ∧ True ∧ True ∧ True ∧ True) ∧ (cgz p ((l.getD k (0, 0)).fst, (l.getD k (0, 0)).snd) = true → True ∧ True ∧ True ∧ ((k : Int) = zIdxR p l ∧ True) ∧ l = l ∧ True ∧ (p = p ∧ True ∧ True) ∧ cmq p (cms p (List.take k l) m) ((l.getD k (0, 0)).fst, (l.getD k (0, 0)).snd) = cms p (List.take (zIdx p l + 1) l) m ∧ True) ∧ (cgz p ((l.getD k (0, 0)).fst, (l.getD k (0, 0)).snd) = false → inR .i64 ((k : Int) + 1) ∧ True ∧ ∃ (y : Nat), (inv93 p l y ∧ l.length - y < l.length - k) ∧ (True ∧ (True ∧ True ∧ True) ∧ (l.length : Int) = (l.length : Int) ∧ (k : Int) + 1 = (y : Int) ∧ True) ∧ l = l ∧ True ∧ (p = p ∧ True ∧ True) ∧ cmq p (cms p (List.take k l) m) ((l.getD k (0, 0)).fst, (l.getD k (0, 0)).snd) = cms p (List.take y l) m ∧ True)) ∧ (¬(k : Int) < (l.length : Int) → ∃ (y : Unit), (∀ (q : PQ), q ∈ l → cgz p q = false) ∧ True ∧ l = l ∧ True ∧ (p = p ∧ True ∧ True) ∧ cms p (List.take k l) m = cms p l m ∧ True)) (by kernel_rfl) ?_
 simp only [zz]
 obtain ⟨h1, h2⟩ := hk
 have hz : ∀ k, k < l.length → l.getD k (0, 0) ∈ l := fun k hk => getD_mem hk
 refine ⟨fun hk => ?_, fun hk => ?_⟩
 · have hk : k < l.length := by omega
   have hmem := hz k hk
   have hpc := hp.2.2 _ hmem
   have hl := hp.2.1
   have e1 : ((l.getD k (0, 0)).1, (l.getD k (0, 0)).2) = l.getD k (0, 0) := rfl
   rw [e1]
   refine ⟨by unfold idxPre; omega, ⟨hp.1, hpc, by have := hpc.2.1; omega, cms_ok hm⟩, fun hx => ?_, fun hx => ⟨by simp only [inR]; omega, k + 1, ⟨⟨by omega, take_memD hk h2 hx⟩, by omega⟩, by omega, ?_⟩⟩
   · have hf := find_b hk h2 hx
     have : ∃ q ∈ l, cgz p q = true := ⟨_, hmem, hx⟩
     refine ⟨by unfold zIdxR; rw [if_pos this]; unfold zIdx; rw [hf], ?_⟩
     unfold zIdx
     rw [hf, take_getD (d := (0, 0)) hk, cms_snoc]
   · rw [take_getD (d := (0, 0)) hk, cms_snoc]
 · have : l.take k = l := List.take_of_length_le (by omega)
   rw [this] at h2
   rw [this]
   exact ⟨h2, rfl⟩
theorem call93 (p : List Int) (l : List PQ) (m : Memo) (hp : pcs p l) (hm : memoOk p m) : GCall Tryd.prog gl 93 false [.own 0 0, clo68] (obD 0 l p m) [.int .i64 (zIdxR p l)] (obD 0 l p (cms p (l.take (zIdx p l + 1)) m)) := by
 refine gcall_of (X := (Xm [e68] 4 (fun _ => none))) ((Xm_ok _ _ _)) (f := 93) (fn := Tryd.f93) (c := bodyOf Tryd.f93) (by kernel_rfl) (by kernel_rfl) (view := false) (rvs := [.tmp 4]) (by kernel_rfl) (H := (H93 p l m)) 80 (by kernel_rfl) ?_
 have hL := loop93 p l m hp hm
 refine of_eq (q := True ∧ True ∧ True ∧ True ∧ LoopOK (Xm [e68] (4 : Nat) fun (x : Nat) => none) L93_0 { J := chk (4 : Nat) [(0 : Nat), (1 : Nat), (7 : Nat), (8 : Nat)] (inv93 p l) (st93 p l m), exits := List.map (fun (x : List Nat × Ex) => x.snd) (ex93 p l m) } (RetR (Xm [e68] (4 : Nat) fun (x : Nat) => none) false false [ResultVar.tmp (4 : Tmp)] [AV.int .i64 (zIdxR p l)] (obD (0 : Nat) l p (cms p (List.take (zIdx p l + 1) l) m))) ∧ (∃ (y : Nat), inv93 p l y ∧ (True ∧ (True ∧ True ∧ True) ∧ (l.length : Int) = (l.length : Int) ∧ (0 : Int) = (y : Int) ∧ True) ∧ l = l ∧ True ∧ (p = p ∧ True ∧ True) ∧ m = cms p (List.take y l) m ∧ True) ∧ (∀ (y : Unit), (∀ (q : PQ), q ∈ l → cgz p q = false) → True ∧ True ∧ ((-1 : Int) = zIdxR p l ∧ True) ∧ l = l ∧ True ∧ (p = p ∧ True ∧ True) ∧ cms p l m = cms p (List.take (zIdx p l + 1) l) m ∧ True) ∧ True) (by kernel_rfl) ?_
 simp only [zz]
 refine ⟨hL, ⟨0, ⟨by omega, by simp⟩, rfl, rfl⟩, fun _ h => ⟨?_, ?_⟩⟩
 · unfold zIdxR; rw [if_neg]
   rintro ⟨q, h1, h2⟩
   rw [h q h1] at h2; cases h2
 · have : zIdx p l = l.length := find_none h
   rw [this, List.take_of_length_le (by omega)]
def get93 (xs : List AV) (obs : List Ob) : Option (List Int × List PQ × Memo) :=
 match unCvB (obs.getD 2 .gone), unPie (obs.getD 0 .gone), unMm (obs.getD 3 .gone) with
 | some p, some l, some m => some (p, l, m)
 | _, _, _ => none
theorem en93 : Enters Tryd.prog 93 := ⟨Tryd.f93, by kernel_rfl, by kernel_rfl, by kernel_rfl⟩
def e93 : Entry Tryd.prog gl := entryW 93 en93 true get93 (fun x => pcs x.1 x.2.1 ∧ memoOk x.1 x.2.2) false (fun _ => [.own 0 0, clo68]) (fun x => obD 0 x.2.1 x.1 x.2.2) (fun x => [.int .i64 (zIdxR x.1 x.2.1)]) (fun x => obD 0 x.2.1 x.1 (cms x.1 (x.2.1.take (zIdx x.1 x.2.1 + 1)) x.2.2)) (fun x h => call93 x.1 x.2.1 x.2.2 h.1 h.2)
def keep (p : List Int) (l : List PQ) : List PQ := l.filter fun q => !cgz p q
/-- What the list holds when its first j have been looked at. -/
def mid67 (p : List Int) (l : List PQ) (j : Nat) : List PQ := keep p (l.take j) ++ l.drop (keep p (l.take j)).length
def nz67 (p : List Int) (l : List PQ) : List PQ := keep p l ++ List.replicate (l.length - (keep p l).length) (0, 0)
theorem keep_le (p : List Int) (l : List PQ) (j : Nat) : (keep p (l.take j)).length ≤ j ∧ (keep p (l.take j)).length ≤ l.length := by
 have h1 : (keep p (l.take j)).length ≤ (l.take j).length := List.length_filter_le ..
 rw [List.length_take] at h1
 omega
theorem mid_length (p : List Int) (l : List PQ) (j : Nat) : (mid67 p l j).length = l.length := by
 have := keep_le p l j
 unfold mid67; rw [List.length_append, List.length_drop]; omega
theorem mid_getD (p : List Int) (l : List PQ) {j : Nat} : (mid67 p l j).getD j (0, 0) = l.getD j (0, 0) := by
 have := keep_le p l j
 unfold mid67
 simp only [List.getD_eq_getElem?_getD]
 rw [List.getElem?_append_right (by omega), List.getElem?_drop, show (keep p (l.take j)).length + (j - (keep p (l.take j)).length) = j by omega]
theorem keep_next (p : List Int) {l : List PQ} {j : Nat} (hj : j < l.length) : keep p (l.take (j + 1)) = if cgz p (l.getD j (0, 0)) then keep p (l.take j) else keep p (l.take j) ++ [l.getD j (0, 0)] := by
 rw [take_getD (d := (0, 0)) hj]
 unfold keep
 rw [List.filter_append]
 cases h : cgz p (l.getD j (0, 0)) with
 | true => rw [if_pos rfl, List.filter_cons]; simp only [h, Bool.not_true, Bool.false_eq_true, if_false, List.filter_nil, List.append_nil]
 | false => rw [if_neg (by simp), List.filter_cons]; simp only [h, Bool.not_false, if_true, List.filter_nil]
theorem mid_set (p : List Int) {l : List PQ} {j : Nat} (hj : j < l.length) (h : cgz p (l.getD j (0, 0)) = false) : (mid67 p l j).set (keep p (l.take j)).length (l.getD j (0, 0)) = mid67 p l (j + 1) := by
 have hle := keep_le p l j
 have hk := keep_next p hj
 rw [if_neg (by rw [h]; simp)] at hk
 unfold mid67
 rw [hk]
 rw [List.set_append_right _ _ (Nat.le_refl _), Nat.sub_self, List.length_append, List.append_assoc]
 congr 1
 have : l.drop (keep p (l.take j)).length = l.getD (keep p (l.take j)).length (0, 0) :: l.drop ((keep p (l.take j)).length + 1) := by
   rw [List.drop_eq_getElem_cons (by omega)]
   congr 1
   simp [List.getD_eq_getElem?_getD, show (keep p (l.take j)).length < l.length by omega]
 rw [this]
 rfl
theorem z_facts {p : List Int} {l : List PQ} (h : ∃ q ∈ l, cgz p q = true) : zIdx p l < l.length ∧ cgz p (l.getD (zIdx p l) (0, 0)) = true ∧ ∀ q ∈ l.take (zIdx p l), cgz p q = false := by
 have h1 : zIdx p l < l.length := List.findIdx_lt_length_of_exists h
 refine ⟨h1, ?_, fun q hq => ?_⟩
 · have := List.findIdx_getElem (w := h1)
   rw [List.getD_eq_getElem?_getD, List.getElem?_eq_getElem h1]
   exact this
 · obtain ⟨i, hi, rfl⟩ := List.getElem_of_mem hq
   rw [List.length_take] at hi
   rw [List.getElem_take]
   have hlt : i < l.findIdx (cgz p) := by
     have : i < zIdx p l := by omega
     exact this
   have := List.not_of_lt_findIdx hlt
   simpa using this
theorem keep_all (p : List Int) : ∀ {l : List PQ}, (∀ q ∈ l, cgz p q = false) → keep p l = l
 | [], _ => rfl
 | q :: l, h => by
   unfold keep
   rw [List.filter_cons, h q (by simp)]
   simp only [Bool.not_false, if_true]
   congr 1
   exact keep_all p fun q hq => h q (by simp [hq])
theorem call67a (p : List Int) (l : List PQ) (m : Memo) (hp : pcs p l) (hm : memoOk p m) (hz : ∀ q ∈ l, cgz p q = false) : GCall Tryd.prog gl 67 false [.own 0 0, clo68] (obD 0 l p m) [.own 0 0] (obD 0 l p (cms p l m)) := by
 refine gcall_of (X := (Xm [e93, e68] 4 (fun _ => none))) ((Xm_ok _ _ _)) (f := 67) (fn := Tryd.f67) (c := bodyOf Tryd.f67) (by kernel_rfl) (by kernel_rfl) (view := false) (rvs := [.tmp 4]) (by kernel_rfl) (H := fun _ => none) 80 (by kernel_rfl) ?_
 refine of_eq (q := True ∧ True ∧ True ∧ (((pcs p l ∧ memoOk p m) ∧ (True ∧ (True ∧ True ∧ True) ∧ True) ∧ l = l ∧ True ∧ (p = p ∧ True ∧ True) ∧ m = m ∧ True) ∧ l.length = l.length ∧ True ∧ True ∧ True ∧ True) ∧ True ∧ True ∧ True ∧ (zIdxR p l = (-1 : Int) → True ∧ True ∧ True ∧ (True ∧ True) ∧ l = l ∧ True ∧ (p = p ∧ True ∧ True) ∧ cms p (List.take (zIdx p l + 1) l) m = cms p l m ∧ True) ∧ (¬zIdxR p l = (-1 : Int) → True ∧ inR .i64 (zIdxR p l + 1) ∧ True ∧ False)) (by kernel_rfl) ?_
 simp only [zz]
 have h1 : zIdx p l = l.length := find_none hz
 refine ⟨⟨hp, hm⟩, fun _ => by rw [h1, List.take_of_length_le (by omega)], fun h => h ?_⟩
 unfold zIdxR; rw [if_neg]
 rintro ⟨q, h1, h2⟩
 rw [hz q h1] at h2; cases h2
noncomputable def L67_0 : Code := lp (bodyOf Tryd.f67) 0
def inv67 (p : List Int) (l : List PQ) (j : Nat) : Prop := zIdx p l + 1 ≤ j ∧ j ≤ l.length
def st67 (p : List Int) (l : List PQ) (m : Memo) (j : Nat) : St := ⟨.own 0 0 :: clo68 :: .dead :: .dead :: .dead :: .int .i64 (keep p (l.take j)).length :: .int .i64 j :: dd 35, obD 0 (mid67 p l j) p (cms p (l.take j) m)⟩
def ex67 (p : List Int) (l : List PQ) (m : Memo) : List (List Nat × Ex) := [([0, 1, 5], ⟨0, Unit, fun _ => True, fun _ => ⟨.own 0 0 :: clo68 :: .dead :: .dead :: .dead :: .int .i64 (keep p l).length :: dd 36, obD 0 (mid67 p l l.length) p (cms p l m)⟩⟩)]
noncomputable def H67 (p : List Int) (l : List PQ) (m : Memo) : Nat → Option Hint := fun _ => some ⟨chk 4 [0, 1, 5, 6] (inv67 p l) (st67 p l m), (ex67 p l m).map (·.2)⟩
theorem loop67 (p : List Int) (l : List PQ) (m : Memo) (hp : pcs p l) (hm : memoOk p m) (R : Exit → St → Prop) : LoopOK (Xm [e93, e68] 4 (fun _ => none)) L67_0 ⟨chk 4 [0, 1, 5, 6] (inv67 p l) (st67 p l m), (ex67 p l m).map (·.2)⟩ R := by
 refine loop_ok (Xm_ok _ _ _) (H := fun _ _ => none) [0, 1, 5, 6] (inv67 p l) (st67 p l m) (fun k => l.length - k) (ex67 p l m) 90 fun (j : Nat) hk => ?_
 refine of_eq (q := True ∧ True ∧ True ∧ True ∧ ((j : Int) < (↑(mid67 p l j).length : Int) → True ∧ True ∧ idxPre (j : Int) (mid67 p l j).length ∧ True ∧ True ∧ True ∧ True ∧ True ∧ ((pre69 (7 : Int) p (cms p (List.take j l) m) (((mid67 p l j).getD j (0, 0)).fst, ((mid67 p l j).getD j (0, 0)).snd) ∧ ((((mid67 p l j).getD j (0, 0)).fst = ((mid67 p l j).getD j (0, 0)).fst ∧ ((mid67 p l j).getD j (0, 0)).snd = ((mid67 p l j).getD j (0, 0)).snd ∧ True) ∧ True ∧ True) ∧ True ∧ (p = p ∧ True ∧ True) ∧ cms p (List.take j l) m = cms p (List.take j l) m ∧ True) ∧ True ∧ True ∧ True ∧ True) ∧ True ∧ ((!cgz p (((mid67 p l j).getD j (0, 0)).fst, ((mid67 p l j).getD j (0, 0)).snd)) = true → True ∧ True ∧ True ∧ idxPre (↑(keep p (List.take j l)).length : Int) (mid67 p l j).length ∧ True ∧ True ∧ inR .i64 ((↑(keep p (List.take j l)).length : Int) + 1) ∧ True ∧ True ∧ inR .i64 ((j : Int) + 1) ∧ True ∧ ∃ (y : Nat), (inv67 p l y ∧ l.length - y < l.length - j) ∧ (True ∧ (True ∧ True ∧ True) ∧ (↑(keep p (List.take j l)).length : Int) + 1 = (↑(keep p (List.take y l)).length : Int) ∧ (j : Int) + 1 = (y : Int) ∧ True) ∧ (mid67 p l j).set (keep p (List.take j l)).length (((mid67 p l j).getD j (0, 0)).fst, ((mid67 p l j).getD j (0, 0)).snd) = mid67 p l y ∧ True ∧ (p = p ∧ True ∧ True) ∧ cmq p (cms p (List.take j l) m) (((mid67 p l j).getD j (0, 0)).fst, ((mid67 p l j).getD j (0, 0)).snd) = cms p (List.take y l) m ∧ True) ∧ ((!cgz p (((mid67 p l j).getD j (0, 0)).fst, ((mid67 p l j).getD j (0, 0)).snd)) = false → True ∧ inR .i64 ((j : Int) + 1) ∧ True ∧ ∃ (y : Nat), (inv67 p l y ∧ l.length - y < l.length - j) ∧ (True ∧ (True ∧ True ∧ True) ∧ (↑(keep p (List.take j l)).length : Int) = (↑(keep p (List.take y l)).length : Int) ∧ (j : Int) + 1 = (y : Int) ∧ True) ∧ mid67 p l j = mid67 p l y ∧ True ∧ (p = p ∧ True ∧ True) ∧ cmq p (cms p (List.take j l) m) (((mid67 p l j).getD j (0, 0)).fst, ((mid67 p l j).getD j (0, 0)).snd) = cms p (List.take y l) m ∧ True)) ∧ (¬(j : Int) < (↑(mid67 p l j).length : Int) → ∃ (y : Unit), True ∧ (True ∧ (True ∧ True ∧ True) ∧ (↑(keep p (List.take j l)).length : Int) = (↑(keep p l).length : Int) ∧ True) ∧ mid67 p l j = mid67 p l l.length ∧ True ∧ (p = p ∧ True ∧ True) ∧ cms p (List.take j l) m = cms p l m ∧ True)) (by kernel_rfl) ?_
 simp only [zz]
 obtain ⟨h1, h2⟩ := hk
 have hle := keep_le p l j
 have hl := hp.2.1
 rw [mid_length, mid_getD]
 have e1 : ((l.getD j (0, 0)).1, (l.getD j (0, 0)).2) = l.getD j (0, 0) := rfl
 rw [e1]
 refine ⟨fun hj => ?_, fun hj => ?_⟩
 · have hj : j < l.length := by omega
   have hpc := hp.2.2 _ (getD_mem (d := (0, 0)) hj)
   have hn := keep_next p hj
   have hc : cmq p (cms p (l.take j) m) (l.getD j (0, 0)) = cms p (l.take (j + 1)) m := by rw [take_getD (d := (0, 0)) hj, cms_snoc]
   refine ⟨by unfold idxPre; omega, ⟨hp.1, hpc, by have := hpc.2.1; omega, cms_ok hm⟩, fun hx => ?_, fun hx => ?_⟩
   · have hx : cgz p (l.getD j (0, 0)) = false := by simpa using hx
     rw [if_neg (by rw [hx]; simp)] at hn
     refine ⟨by unfold idxPre; omega, by simp only [inR]; omega, by simp only [inR]; omega, j + 1, ⟨⟨by omega, by omega⟩, by omega⟩, ⟨by rw [hn]; simp, by omega⟩, mid_set p hj hx, hc⟩
   · have hx : cgz p (l.getD j (0, 0)) = true := by simpa using hx
     rw [if_pos hx] at hn
     refine ⟨by simp only [inR]; omega, j + 1, ⟨⟨by omega, by omega⟩, by omega⟩, ⟨by rw [hn], by omega⟩, by unfold mid67; rw [hn], hc⟩
 · have e : j = l.length := by omega
   subst e
   rw [List.take_length]
   exact ⟨rfl, rfl, rfl⟩
theorem call67b (p : List Int) (l : List PQ) (m : Memo) (hp : pcs p l) (hm : memoOk p m) (hz : ∃ q ∈ l, cgz p q = true) : GCall Tryd.prog gl 67 false [.own 0 0, clo68] (obD 0 l p m) [.sub 0 0 [] 0 (keep p l).length] (obD 0 (nz67 p l) p (cms p l m)) := by
 refine gcall_of (X := (Xm [e93, e68] 4 (fun _ => none))) ((Xm_ok _ _ _)) (f := 67) (fn := Tryd.f67) (c := bodyOf Tryd.f67) (by kernel_rfl) (by kernel_rfl) (view := false) (rvs := [.tmp 4]) (by kernel_rfl) (H := (H67 p l m)) 80 (by kernel_rfl) ?_
 have hL := loop67 p l m hp hm
 refine of_eq (q := True ∧ True ∧ True ∧ (((pcs p l ∧ memoOk p m) ∧ (True ∧ (True ∧ True ∧ True) ∧ True) ∧ l = l ∧ True ∧ (p = p ∧ True ∧ True) ∧ m = m ∧ True) ∧ l.length = l.length ∧ True ∧ True ∧ True ∧ True) ∧ True ∧ True ∧ True ∧ (zIdxR p l = (-1 : Int) → True ∧ True ∧ True ∧ (False ∧ True) ∧ l = nz67 p l ∧ True ∧ (p = p ∧ True ∧ True) ∧ cms p (List.take (zIdx p l + 1) l) m = cms p l m ∧ True) ∧ (¬zIdxR p l = (-1 : Int) → True ∧ inR .i64 (zIdxR p l + 1) ∧ True ∧ LoopOK (Xm [e93, e68] (4 : Nat) fun (x : Nat) => none) L67_0 { J := chk (4 : Nat) [(0 : Nat), (1 : Nat), (5 : Nat), (6 : Nat)] (inv67 p l) (st67 p l m), exits := List.map (fun (x : List Nat × Ex) => x.snd) (ex67 p l m) } (RetR (Xm [e93, e68] (4 : Nat) fun (x : Nat) => none) false false [ResultVar.tmp (4 : Tmp)] [AV.sub (0 : Nat) (0 : Nat) [] (0 : Nat) (keep p l).length] (obD (0 : Nat) (nz67 p l) p (cms p l m))) ∧ (∃ (y : Nat), inv67 p l y ∧ (True ∧ (True ∧ True ∧ True) ∧ zIdxR p l = (↑(keep p (List.take y l)).length : Int) ∧ zIdxR p l + 1 = (y : Int) ∧ True) ∧ l = mid67 p l y ∧ True ∧ (p = p ∧ True ∧ True) ∧ cms p (List.take (zIdx p l + 1) l) m = cms p (List.take y l) m ∧ True) ∧ (∀ (y : Unit), True → True ∧ True ∧ slPre (mid67 p l l.length).length (mid67 p l l.length).length (some (↑(keep p l).length : Int)) none none ∧ True ∧ True ∧ True ∧ slPre (List.take (bLo (some (↑(keep p l).length : Int))) (mid67 p l l.length) ++ (List.take (bHi (mid67 p l l.length).length none - bLo (some (↑(keep p l).length : Int))) (List.replicate (bHi (mid67 p l l.length).length none - bLo (some (↑(keep p l).length : Int))) ((Ty.int .i64).s2 (Ty.int .i64)).dflt) ++ List.drop (bLo (some (↑(keep p l).length : Int)) + (bHi (mid67 p l l.length).length none - bLo (some (↑(keep p l).length : Int)))) (mid67 p l l.length))).length (List.take (bLo (some (↑(keep p l).length : Int))) (mid67 p l l.length) ++ (List.take (bHi (mid67 p l l.length).length none - bLo (some (↑(keep p l).length : Int))) (List.replicate (bHi (mid67 p l l.length).length none - bLo (some (↑(keep p l).length : Int))) ((Ty.int .i64).s2 (Ty.int .i64)).dflt) ++ List.drop (bLo (some (↑(keep p l).length : Int)) + (bHi (mid67 p l l.length).length none - bLo (some (↑(keep p l).length : Int)))) (mid67 p l l.length))).length none (some (↑(keep p l).length : Int)) none ∧ True ∧ True ∧ ((bLo none = 0 ∧ bHi (List.take (bLo (some (↑(keep p l).length : Int))) (mid67 p l l.length) ++ (List.take (bHi (mid67 p l l.length).length none - bLo (some (↑(keep p l).length : Int))) (List.replicate (bHi (mid67 p l l.length).length none - bLo (some (↑(keep p l).length : Int))) ((Ty.int .i64).s2 (Ty.int .i64)).dflt) ++ List.drop (bLo (some (↑(keep p l).length : Int)) + (bHi (mid67 p l l.length).length none - bLo (some (↑(keep p l).length : Int)))) (mid67 p l l.length))).length (some (↑(keep p l).length : Int)) - bLo none = (keep p l).length) ∧ True) ∧ List.take (bLo (some (↑(keep p l).length : Int))) (mid67 p l l.length) ++ (List.take (bHi (mid67 p l l.length).length none - bLo (some (↑(keep p l).length : Int))) (List.replicate (bHi (mid67 p l l.length).length none - bLo (some (↑(keep p l).length : Int))) ((Ty.int .i64).s2 (Ty.int .i64)).dflt) ++ List.drop (bLo (some (↑(keep p l).length : Int)) + (bHi (mid67 p l l.length).length none - bLo (some (↑(keep p l).length : Int)))) (mid67 p l l.length)) = nz67 p l ∧ True ∧ (p = p ∧ True ∧ True) ∧ cms p l m = cms p l m ∧ True) ∧ True)) (by kernel_rfl) ?_
 simp only [zz]
 obtain ⟨z1, z2, z3⟩ := z_facts hz
 have hl := hp.2.1
 have hR : zIdxR p l = (zIdx p l : Int) := by unfold zIdxR; rw [if_pos hz]
 have hk0 : keep p (l.take (zIdx p l + 1)) = l.take (zIdx p l) := by
   rw [keep_next p z1, if_pos z2, keep_all p z3]
 have hkl : (keep p l).length ≤ l.length := List.length_filter_le ..
 have hml := mid_length p l l.length
 rw [hR]
 refine ⟨⟨hp, hm⟩, fun h => by omega, fun _ => ⟨by simp only [inR]; omega, hL _, ⟨zIdx p l + 1, ⟨Nat.le_refl _, z1⟩, ⟨by rw [hk0, List.length_take]; omega, by omega⟩, ?_, rfl⟩, fun _ => ?_⟩⟩
 · unfold mid67
   rw [hk0, List.length_take, show min (zIdx p l) l.length = zIdx p l by omega, List.take_append_drop]
 · rw [hml]
   have e0 : bLo (some ((keep p l).length : Int)) = (keep p l).length := by simp [bLo]
   have e1 : bHi l.length none = l.length := rfl
   have e2 : bHi l.length (some ((keep p l).length : Int)) = (keep p l).length := by simp [bHi]
   have e3 : bLo none = 0 := rfl
   rw [e0, e1]
   have e4 : mid67 p l l.length = keep p l ++ l.drop (keep p l).length := by unfold mid67; rw [List.take_length]
   have e5 : List.take (keep p l).length (mid67 p l l.length) ++ (List.take (l.length - (keep p l).length) (List.replicate (l.length - (keep p l).length) ((Ty.int IntKind.i64).s2 (Ty.int IntKind.i64)).dflt) ++ List.drop ((keep p l).length + (l.length - (keep p l).length)) (mid67 p l l.length)) = nz67 p l := by
     rw [e4, List.take_left, List.take_of_length_le (by simp), List.drop_eq_nil_of_le (by simp)]
     simp [nz67, Ty.dflt]
   rw [e5]
   have e6 : (nz67 p l).length = l.length := by unfold nz67; simp; omega
   rw [e6, e2, e3]
   exact fun _ => ⟨by simp only [slPre]; simp [bLo, bHi]; omega, by simp only [slPre]; simp [bLo, bHi]; omega, by omega, rfl⟩
end Go.Am.Bern

/- Bern: Roots, Count. -/
namespace Go.Am.Bern
open Go Go.Am Go.Proofs
theorem grL_piece (gd : List PQ → Bool) (p : List Int) : ∀ (n d k : Nat), d + n = 6 → k < 2 ^ d → ∀ q ∈ grL gd p n d k, isPiece q := by
 have one : ∀ d k : Nat, d ≤ 6 → k < 2 ^ d → isPiece ((d : Int), (k : Int)) := fun d k hd hk => by
   unfold isPiece
   have e : ((2 ^ d : Nat) : Int) = 2 ^ d := by rw [Int.natCast_pow]; try rfl
   simp only [Int.toNat_natCast]
   rw [← e]
   omega
 intro n
 induction n with
 | zero =>
   intro d k hd hk q hq
   unfold grL at hq
   split at hq
   · simp at hq; subst hq; exact one d k (by omega) hk
   · simp at hq
 | succ n ih =>
   intro d k hd hk q hq
   rw [grL_succ] at hq
   have hp : 2 ^ (d + 1) = 2 * 2 ^ d := by rw [Nat.pow_succ]; omega
   split at hq
   · simp at hq; subst hq; exact one d k (by omega) hk
   · unfold hvL at hq
     split at hq
     · rcases List.mem_append.mp hq with hq | hq
       · exact ih (d + 1) (2 * k) (by omega) (by omega) q hq
       · exact ih (d + 1) (2 * k + 1) (by omega) (by omega) q hq
     · exact ih (d + 1) (2 * k) (by omega) (by omega) q hq
theorem en67 : Enters Tryd.prog 67 := ⟨Tryd.f67, by kernel_rfl, by kernel_rfl, by kernel_rfl⟩
def e67a : Entry Tryd.prog gl := entryW 67 en67 true get93 (fun x => pcs x.1 x.2.1 ∧ memoOk x.1 x.2.2 ∧ ∀ q ∈ x.2.1, cgz x.1 q = false) false (fun _ => [.own 0 0, clo68]) (fun x => obD 0 x.2.1 x.1 x.2.2) (fun _ => [.own 0 0]) (fun x => obD 0 x.2.1 x.1 (cms x.1 x.2.1 x.2.2)) (fun x h => call67a x.1 x.2.1 x.2.2 h.1 h.2.1 h.2.2)
def e67b : Entry Tryd.prog gl := entryW 67 en67 true get93 (fun x => pcs x.1 x.2.1 ∧ memoOk x.1 x.2.2 ∧ ∃ q ∈ x.2.1, cgz x.1 q = true) false (fun _ => [.own 0 0, clo68]) (fun x => obD 0 x.2.1 x.1 x.2.2) (fun x => [.sub 0 0 [] 0 (keep x.1 x.2.1).length]) (fun x => obD 0 (nz67 x.1 x.2.1) x.1 (cms x.1 x.2.1 x.2.2)) (fun x h => call67b x.1 x.2.1 x.2.2 h.1 h.2.1 h.2.2)
def rootsB (p : List Int) : Prop := isPoly p ∧ plainP p ∧ P64.coverB p = true
instance (p : List Int) : Decidable (rootsB p) := inferInstanceAs (Decidable (_ ∧ _))
def rootsP (p : List Int) : List PQ := if rootsB p then keep p (P64.coverL p) else []
def rootsE (p : List Int) : Int := if isPoly p then (if plainP p then (if P64.coverB p = true then 0 else 8) else 4) else 80
theorem cover_pcs {p : List Int} (hp : isPoly p) : pcs p (P64.coverL p) := by
 have hlen : (P64.coverL p).length ≤ 64 := grL_len _ p 6 0 0
 exact ⟨hp, by omega, grL_piece _ p 6 0 0 (by omega) (by omega)⟩
theorem call20 (p : List Int) (h : p.length < 1000000) : GCall Tryd.prog gl 20 false [.sl I64 p] [] [.sl Q2 (rootsP p), .int .i64 (rootsE p)] [] := by
 have hlen : (P64.coverL p).length ≤ 64 := grL_len _ p 6 0 0
 have r1 : ¬ isPoly p → rootsP p = [] ∧ rootsE p = errOf p := fun h => by simp [rootsP, rootsB, rootsE, errOf, h]
 have r2 : ¬ plainP p → isPoly p → rootsP p = [] ∧ rootsE p = 4 := fun h hp => by simp [rootsP, rootsB, rootsE, hp, h]
 by_cases hb : P64.coverB p = true
 · have r3 : isPoly p → plainP p → rootsP p = keep p (P64.coverL p) ∧ rootsE p = 0 := fun hp h => by simp [rootsP, rootsB, rootsE, hp, h, hb]
   by_cases hz : ∃ q ∈ P64.coverL p, cgz p q = true
   · refine gcall_of (X := (X [e56, e61, e62, e66, e63o, e67b])) ((X_ok _)) (f := 20) (fn := Tryd.f20) (c := bodyOf Tryd.f20) (by kernel_rfl) (by kernel_rfl) (view := true) (rvs := [.tmp 2, .tmp 3]) (by kernel_rfl) (H := fun _ => none) 80 (by kernel_rfl) ?_
     refine of_eq (q := True ∧ True ∧ True ∧ (p.length + 1 ≤ 1000000 ∧ True) ∧ True ∧ True ∧ True ∧ (¬errOf p = 0 → True ∧ True ∧ True ∧ True ∧ (([] : List (Int × Int)) = rootsP p ∧ errOf p = rootsE p ∧ True) ∧ True) ∧ (¬¬errOf p = 0 → True ∧ (((1 : Nat) ≤ p.length ∧ p.length ≤ 7 ∧ coefs p) ∧ True) ∧ True ∧ ((!decide (plainP p)) = true → True ∧ True ∧ True ∧ (([] : List (Int × Int)) = rootsP p ∧ (4 : Int) = rootsE p ∧ True) ∧ True) ∧ ((!decide (plainP p)) = false → True ∧ (True ∧ True) ∧ True ∧ True ∧ True ∧ True ∧ (((isPoly p ∧ memoOk p [] ∧ P64.coverB p = true) ∧ (True ∧ ((0 : Int) = 0 ∧ (0 : Int) = 0 ∧ True) ∧ (True ∧ True) ∧ True) ∧ (p = p ∧ True ∧ True) ∧ ([] : List ((Int × Int) × List (Int × Int))) = [] ∧ True) ∧ True ∧ True ∧ True) ∧ True ∧ True ∧ True ∧ True ∧ True ∧ (((pcs p (P64.coverL p) ∧ memoOk p (P64.coverM p []) ∧ ∃ (q : PQ), q ∈ P64.coverL p ∧ cgz p q = true) ∧ (True ∧ (True ∧ True ∧ True) ∧ True) ∧ P64.coverL p = P64.coverL p ∧ True ∧ (p = p ∧ True ∧ True) ∧ P64.coverM p [] = P64.coverM p [] ∧ True) ∧ (nz67 p (P64.coverL p)).length = (P64.coverL p).length ∧ True ∧ True ∧ True ∧ True) ∧ ((List.take (keep p (P64.coverL p)).length (List.drop (0 : Nat) (nz67 p (P64.coverL p)))).length + 1 ≤ 1000000 ∧ True) ∧ True ∧ True ∧ True ∧ (List.take (keep p (P64.coverL p)).length (List.drop (0 : Nat) (nz67 p (P64.coverL p))) = rootsP p ∧ (0 : Int) = rootsE p ∧ True) ∧ True))) (by kernel_rfl) ?_
     simp only [zz]
     refine ⟨by omega, fun he => ?_, fun he => ?_⟩
     · obtain ⟨e1, e2⟩ := r1 (errOf_pos he)
       exact ⟨e1.symm, e2.symm⟩
     · have hp := errOf_zero he
       refine ⟨hp, fun hx => ?_, fun hx => ?_⟩
       · have hx : ¬ plainP p := by simpa using hx
         obtain ⟨e1, e2⟩ := r2 hx hp
         exact ⟨e1.symm, e2.symm⟩
       · have hx : plainP p := by simpa using hx
         obtain ⟨e1, e2⟩ := r3 hp hx
         have hnz : (nz67 p (P64.coverL p)).length = (P64.coverL p).length := by
           have : (keep p (P64.coverL p)).length ≤ (P64.coverL p).length := List.length_filter_le ..
           unfold nz67; simp; omega
         have htk : List.take (keep p (P64.coverL p)).length (List.drop 0 (nz67 p (P64.coverL p))) = keep p (P64.coverL p) := by
           unfold nz67; rw [List.drop_zero, List.take_left]
         have hkl : (keep p (P64.coverL p)).length ≤ (P64.coverL p).length := List.length_filter_le ..
         rw [htk]
         exact ⟨⟨hp, memoOk_nil p, hb⟩, ⟨⟨cover_pcs hp, grM_ok _ p (memoOk_nil p), hz⟩, hnz⟩, by omega, e1.symm, e2.symm⟩
   · refine gcall_of (X := (X [e56, e61, e62, e66, e63o, e67a])) ((X_ok _)) (f := 20) (fn := Tryd.f20) (c := bodyOf Tryd.f20) (by kernel_rfl) (by kernel_rfl) (view := true) (rvs := [.tmp 2, .tmp 3]) (by kernel_rfl) (H := fun _ => none) 80 (by kernel_rfl) ?_
     refine of_eq (q := True ∧ True ∧ True ∧ (p.length + 1 ≤ 1000000 ∧ True) ∧ True ∧ True ∧ True ∧ (¬errOf p = 0 → True ∧ True ∧ True ∧ True ∧ (([] : List (Int × Int)) = rootsP p ∧ errOf p = rootsE p ∧ True) ∧ True) ∧ (¬¬errOf p = 0 → True ∧ (((1 : Nat) ≤ p.length ∧ p.length ≤ 7 ∧ coefs p) ∧ True) ∧ True ∧ ((!decide (plainP p)) = true → True ∧ True ∧ True ∧ (([] : List (Int × Int)) = rootsP p ∧ (4 : Int) = rootsE p ∧ True) ∧ True) ∧ ((!decide (plainP p)) = false → True ∧ (True ∧ True) ∧ True ∧ True ∧ True ∧ True ∧ (((isPoly p ∧ memoOk p [] ∧ P64.coverB p = true) ∧ (True ∧ ((0 : Int) = 0 ∧ (0 : Int) = 0 ∧ True) ∧ (True ∧ True) ∧ True) ∧ (p = p ∧ True ∧ True) ∧ ([] : List ((Int × Int) × List (Int × Int))) = [] ∧ True) ∧ True ∧ True ∧ True) ∧ True ∧ True ∧ True ∧ True ∧ True ∧ (((pcs p (P64.coverL p) ∧ memoOk p (P64.coverM p []) ∧ ∀ (q : PQ), q ∈ P64.coverL p → cgz p q = false) ∧ (True ∧ (True ∧ True ∧ True) ∧ True) ∧ P64.coverL p = P64.coverL p ∧ True ∧ (p = p ∧ True ∧ True) ∧ P64.coverM p [] = P64.coverM p [] ∧ True) ∧ (P64.coverL p).length = (P64.coverL p).length ∧ True ∧ True ∧ True ∧ True) ∧ ((P64.coverL p).length + 1 ≤ 1000000 ∧ True) ∧ True ∧ True ∧ True ∧ (P64.coverL p = rootsP p ∧ (0 : Int) = rootsE p ∧ True) ∧ True))) (by kernel_rfl) ?_
     simp only [zz]
     have hz' : ∀ q ∈ P64.coverL p, cgz p q = false := fun q hq => by
       cases h : cgz p q with
       | false => rfl
       | true => exact absurd ⟨q, hq, h⟩ hz
     refine ⟨by omega, fun he => ?_, fun he => ?_⟩
     · obtain ⟨e1, e2⟩ := r1 (errOf_pos he)
       exact ⟨e1.symm, e2.symm⟩
     · have hp := errOf_zero he
       refine ⟨hp, fun hx => ?_, fun hx => ?_⟩
       · have hx : ¬ plainP p := by simpa using hx
         obtain ⟨e1, e2⟩ := r2 hx hp
         exact ⟨e1.symm, e2.symm⟩
       · have hx : plainP p := by simpa using hx
         obtain ⟨e1, e2⟩ := r3 hp hx
         rw [keep_all p hz'] at e1
         exact ⟨⟨hp, memoOk_nil p, hb⟩, ⟨cover_pcs hp, grM_ok _ p (memoOk_nil p), hz'⟩, by omega, e1.symm, e2.symm⟩
 · have hb : P64.coverB p = false := by simpa using hb
   refine gcall_of (X := (X [e56, e61, e62, e66, e63n])) ((X_ok _)) (f := 20) (fn := Tryd.f20) (c := bodyOf Tryd.f20) (by kernel_rfl) (by kernel_rfl) (view := true) (rvs := [.tmp 2, .tmp 3]) (by kernel_rfl) (H := fun _ => none) 80 (by kernel_rfl) ?_
   refine of_eq (q := True ∧ True ∧ True ∧ (p.length + 1 ≤ 1000000 ∧ True) ∧ True ∧ True ∧ True ∧ (¬errOf p = 0 → True ∧ True ∧ True ∧ True ∧ (([] : List (Int × Int)) = rootsP p ∧ errOf p = rootsE p ∧ True) ∧ True) ∧ (¬¬errOf p = 0 → True ∧ (((1 : Nat) ≤ p.length ∧ p.length ≤ 7 ∧ coefs p) ∧ True) ∧ True ∧ ((!decide (plainP p)) = true → True ∧ True ∧ True ∧ (([] : List (Int × Int)) = rootsP p ∧ (4 : Int) = rootsE p ∧ True) ∧ True) ∧ ((!decide (plainP p)) = false → True ∧ (True ∧ True) ∧ True ∧ True ∧ True ∧ True ∧ (((isPoly p ∧ memoOk p [] ∧ P64.coverB p = false) ∧ (True ∧ ((0 : Int) = 0 ∧ (0 : Int) = 0 ∧ True) ∧ (True ∧ True) ∧ True) ∧ (p = p ∧ True ∧ True) ∧ ([] : List ((Int × Int) × List (Int × Int))) = [] ∧ True) ∧ True ∧ True ∧ True) ∧ True ∧ True ∧ True ∧ True ∧ True ∧ True ∧ (([] : List (Int × Int)) = rootsP p ∧ (8 : Int) = rootsE p ∧ True) ∧ True))) (by kernel_rfl) ?_
   simp only [zz]
   refine ⟨by omega, fun he => ?_, fun he => ?_⟩
   · obtain ⟨e1, e2⟩ := r1 (errOf_pos he)
     exact ⟨e1.symm, e2.symm⟩
   · have hp := errOf_zero he
     refine ⟨hp, fun hx => ?_, fun hx => ?_⟩
     · have hx : ¬ plainP p := by simpa using hx
       obtain ⟨e1, e2⟩ := r2 hx hp
       exact ⟨e1.symm, e2.symm⟩
     · have hx : plainP p := by simpa using hx
       exact ⟨⟨hp, memoOk_nil p, hb⟩, by simp [rootsP, rootsB, hb], by simp [rootsE, hp, hx, hb]⟩
def e20 : Entry Tryd.prog gl := entry1 20 ⟨Tryd.f20, by kernel_rfl, by kernel_rfl, by kernel_rfl⟩ SI (fun p => p.length < 1000000) false (fun p => [.sl Q2 (rootsP p), .int .i64 (rootsE p)]) (fun _ => []) (call20)
theorem call21 (p : List Int) (h : p.length < 1000000) : GCall Tryd.prog gl 21 false [.sl I64 p] [] [.int .i64 (rootsP p).length, .int .i64 (rootsE p)] [] := by
 refine gcall_of (X := X [e20]) (X_ok [e20]) (f := 21) (fn := Tryd.f21) (c := bodyOf Tryd.f21) (by kernel_rfl) (by kernel_rfl) (view := false) (rvs := [.tmp 2, .tmp 3]) (by kernel_rfl) (H := fun _ => none) 80 (by kernel_rfl) ?_
 refine of_eq (q := True ∧ True ∧ True ∧ (p.length + 1 ≤ 1000000 ∧ True) ∧ True ∧ True ∧ True ∧ True ∧ True ∧ True ∧ True ∧ True ∧ True ∧ True ∧ True ∧ ((↑(rootsP p).length : Int) = (↑(rootsP p).length : Int) ∧ rootsE p = rootsE p ∧ True) ∧ True) (by kernel_rfl) ?_
 simp only [zz]
 omega
def e21 : Entry Tryd.prog gl := entry1 21 ⟨Tryd.f21, by kernel_rfl, by kernel_rfl, by kernel_rfl⟩ SI (fun p => p.length < 1000000) false (fun p => [.int .i64 (rootsP p).length, .int .i64 (rootsE p)]) (fun _ => []) (call21)
end Go.Am.Bern

/- Bern: readings of the reference. -/
namespace Go.Am.Bern
open Go Go.Am Go.Proofs
def cgs (p : List Int) (d k : Nat) : Nat := chg (qc p d k)
section
variable (p : List Int)
/-- Is there a reading of a piece, n levels being left? -/
def rdB : Nat → Nat → Nat → Bool
 | 0, d, k => decide (cgs p d k = 0) || decide (cgs p d k = 1)
 | n + 1, d, k => decide (cgs p d k = 0) || (decide (cgs p d k = 1) || (rdB n (d + 1) (2 * k) && rdB n (d + 1) (2 * k + 1)))
/-- The pieces that it returns. -/
def rdL : Nat → Nat → Nat → List PQ
 | 0, d, k => if cgs p d k = 0 then [] else if cgs p d k = 1 then [((d : Int), (k : Int))] else []
 | n + 1, d, k => if cgs p d k = 0 then [] else if cgs p d k = 1 then [((d : Int), (k : Int))] else
     if rdB p n (d + 1) (2 * k) then rdL n (d + 1) (2 * k) ++ rdL n (d + 1) (2 * k + 1) else []
end
def readB (p : List Int) : Bool := rdB p 6 0 0
def readL (p : List Int) : List PQ := rdL p 6 0 0
end Go.Am.Bern

/- Bern: readings that are checked. -/
namespace Go.Am.Bern
open Go Go.Am Go.Proofs
def fr' (x : PQ) : Int := x.2 * 2 ^ (6 - x.1).toNat
def gapz (p : List Int) (a b : Int) : Prop := ∀ j : Nat, j < 64 → a ≤ j → (j : Int) < b → cgs p 6 j = 0
instance (p : List Int) (a b : Int) : Decidable (gapz p a b) := inferInstanceAs (Decidable (∀ j : Nat, j < 64 → _))
def rdR (p : List Int) : Int → List PQ → Prop
 | a, [] => a ≤ 64 ∧ gapz p a 64
 | a, x :: l => isPiece x ∧ cgs p x.1.toNat x.2.toNat = 1 ∧ a ≤ fr' x ∧ gapz p a (fr' x) ∧ rdR p (fr' x + 2 ^ (6 - x.1).toNat) l
instance rdR_dec (p : List Int) : ∀ (a : Int) (l : List PQ), Decidable (rdR p a l)
 | _, [] => by unfold rdR; infer_instance
 | a, x :: l => by unfold rdR; have := rdR_dec p (fr' x + 2 ^ (6 - x.1).toNat) l; infer_instance
end Go.Am.Bern

/- Bern: awake. -/
namespace Go.Am.Bern
open Go Go.Am Go.Proofs
theorem call18 : GCall Tryd.prog gl 18 true [] [] [.tt] [] := by
 have f1 : cornersE [1, -3, 3] (0, 0) = 0 := by kernel_rfl
 have f2 : (cornersR [1, -3, 3] (0, 0)).length = 3 := by kernel_rfl
 have f3 : errOf [1, -3, 3] = 0 := by kernel_rfl
 have f4 : (posK [1, -3, 3]).length = 2 := by kernel_rfl
 have f5 : isPoly [1, -3, 3] := by decide
 have f6 : errOf [-1, 3] = 0 := by kernel_rfl
 have f7 : low29 [-1, 3] = (0, 1) := by kernel_rfl
 have f8 : rootsE [1, -5, 5] = 0 := by kernel_rfl
 have f9 : (rootsP [1, -5, 5]).length = 2 := by kernel_rfl
 have f10 : (if given [((1 : Int), (1 : Int)), (-1, 2), (1, 1)] 7 then (0 : Int) else 1) = 0 := by kernel_rfl
 refine gcall_of (X := (X [e13, e26, e29, e21, e37, e15, e28])) ((X_ok _)) (f := 18) (fn := Tryd.f18) (c := bodyOf Tryd.f18) (by kernel_rfl) (by kernel_rfl) (view := false) (rvs := [.tmp 0]) (by kernel_rfl) (H := fun _ => none) 200 (by kernel_rfl) ?_
 refine of_eq (q := True ∧ True ∧ True ∧ ([(1 : Int), (-3 : Int), (3 : Int)].length + 1 ≤ 1000000 ∧ True) ∧ True ∧ True ∧ True ∧ True ∧ True ∧ True ∧ ([(1 : Int), (-3 : Int), (3 : Int)].length + 1 ≤ 1000000 ∧ True) ∧ True ∧ True ∧ True ∧ True ∧ True ∧ True ∧ True ∧ True ∧ ([(-1 : Int), (3 : Int)].length + 1 ≤ 1000000 ∧ True) ∧ True ∧ True ∧ True ∧ True ∧ True ∧ True ∧ True ∧ True ∧ True ∧ ([(1 : Int), (-5 : Int), (5 : Int)].length + 1 ≤ 1000000 ∧ True) ∧ True ∧ True ∧ True ∧ True ∧ True ∧ True ∧ True ∧ True ∧ True ∧ ([((1 : Int), (1 : Int)), ((-1 : Int), (2 : Int)), ((1 : Int), (1 : Int))].length + 1 ≤ 1000000 ∧ True) ∧ True ∧ True ∧ True ∧ True ∧ True ∧ True ∧ True ∧ True ∧ (cornersE [(1 : Int), (-3 : Int), (3 : Int)] ((0 : Int), (0 : Int)) = 0 → True ∧ True ∧ True ∧ True ∧ True ∧ ((cornersR [(1 : Int), (-3 : Int), (3 : Int)] ((0 : Int), (0 : Int))).length + 1 ≤ 1000000 ∧ True) ∧ True ∧ True ∧ (true = true → True ∧ True ∧ True ∧ True ∧ (errOf [(1 : Int), (-3 : Int), (3 : Int)] = 0 → True ∧ True ∧ True ∧ (true = true → True ∧ True ∧ ((isPoly [(1 : Int), (-3 : Int), (3 : Int)] ∧ (posK [(1 : Int), (-3 : Int), (3 : Int)]).length < 1000000) ∧ True) ∧ True ∧ True ∧ (true = true → True ∧ True ∧ True ∧ True ∧ (errOf [(-1 : Int), (3 : Int)] = 0 → True ∧ True ∧ True ∧ (true = true → True ∧ True ∧ True ∧ True ∧ True ∧ (((low29 [(-1 : Int), (3 : Int)]).fst, (low29 [(-1 : Int), (3 : Int)]).snd) = ((0 : Int), (1 : Int)) → True ∧ True ∧ True ∧ True ∧ (rootsE [(1 : Int), (-5 : Int), (5 : Int)] = 0 → True ∧ True ∧ True ∧ True ∧ ((↑(rootsP [(1 : Int), (-5 : Int), (5 : Int)]).length : Int) = 2 → True ∧ True ∧ True ∧ True ∧ ((if given [((1 : Int), (1 : Int)), ((-1 : Int), (2 : Int)), ((1 : Int), (1 : Int))] (7 : Int) then (0 : Int) else (1 : Int)) = 0 → True ∧ True ∧ True ∧ True ∧ True ∧ (true = true ∧ True) ∧ True) ∧ (¬(if given [((1 : Int), (1 : Int)), ((-1 : Int), (2 : Int)), ((1 : Int), (1 : Int))] (7 : Int) then (0 : Int) else (1 : Int)) = 0 → True ∧ True ∧ True ∧ (false = true ∧ True) ∧ True)) ∧ (¬(↑(rootsP [(1 : Int), (-5 : Int), (5 : Int)]).length : Int) = 2 → True ∧ True ∧ True ∧ True ∧ True ∧ (false = true ∧ True) ∧ True)) ∧ (¬rootsE [(1 : Int), (-5 : Int), (5 : Int)] = 0 → True ∧ True ∧ True ∧ True ∧ True ∧ True ∧ True ∧ (false = true ∧ True) ∧ True)) ∧ (¬((low29 [(-1 : Int), (3 : Int)]).fst, (low29 [(-1 : Int), (3 : Int)]).snd) = ((0 : Int), (1 : Int)) → True ∧ True ∧ True ∧ True ∧ True ∧ True ∧ True ∧ True ∧ True ∧ (false = true ∧ True) ∧ True)) ∧ (true = false → True ∧ True ∧ True ∧ True ∧ True ∧ True ∧ True ∧ True ∧ True ∧ True ∧ True ∧ (false = true ∧ True) ∧ True)) ∧ (¬errOf [(-1 : Int), (3 : Int)] = 0 → True ∧ True ∧ True ∧ True ∧ True ∧ True ∧ True ∧ True ∧ True ∧ True ∧ True ∧ True ∧ True ∧ (false = true ∧ True) ∧ True)) ∧ (true = false → True ∧ True ∧ True ∧ True ∧ True ∧ True ∧ True ∧ True ∧ True ∧ True ∧ True ∧ True ∧ True ∧ True ∧ True ∧ (false = true ∧ True) ∧ True)) ∧ (true = false → True ∧ True ∧ True ∧ True ∧ True ∧ True ∧ True ∧ True ∧ True ∧ True ∧ True ∧ True ∧ True ∧ True ∧ True ∧ True ∧ True ∧ (false = true ∧ True) ∧ True)) ∧ (¬errOf [(1 : Int), (-3 : Int), (3 : Int)] = 0 → True ∧ True ∧ True ∧ True ∧ True ∧ True ∧ True ∧ True ∧ True ∧ True ∧ True ∧ True ∧ True ∧ True ∧ True ∧ True ∧ True ∧ True ∧ True ∧ (false = true ∧ True) ∧ True)) ∧ (true = false → True ∧ True ∧ True ∧ True ∧ True ∧ True ∧ True ∧ True ∧ True ∧ True ∧ True ∧ True ∧ True ∧ True ∧ True ∧ True ∧ True ∧ True ∧ True ∧ True ∧ True ∧ (false = true ∧ True) ∧ True)) ∧ (¬cornersE [(1 : Int), (-3 : Int), (3 : Int)] ((0 : Int), (0 : Int)) = 0 → True ∧ True ∧ True ∧ True ∧ True ∧ True ∧ True ∧ True ∧ True ∧ True ∧ True ∧ True ∧ True ∧ True ∧ True ∧ True ∧ True ∧ True ∧ True ∧ True ∧ True ∧ True ∧ True ∧ (false = true ∧ True) ∧ True)) (by kernel_rfl) ?_
 simp only [f1, f2, f3, f4, f6, f7, f8, f9, f10]
 simp [f5]
 first | done | kernel_rfl
def e18 : Entry Tryd.prog gl where
 f := 18
 lend := false
 en := ⟨Tryd.f18, by kernel_rfl, by kernel_rfl, by kernel_rfl⟩
 go := fun args ob0 => match args, ob0 with
   | [], [] => some (True, true, [.tt], [])
   | _, _ => none
 ok := by
   intro args ob0 p s r o h hp
   split at h <;> try (cases h; done)
   injection h with h; injection h with h1 h2; injection h2 with h2 h3; injection h3 with h3 h4
   subst h1 h2 h3 h4
   exact call18
theorem call12v (l : List Int) (hl : l.length < 1000000000000000) : GCall Tryd.prog gl 12 true [.sl I64 l] [] [.sl I64 (tmL l)] [] := by
 refine gcall_of (X := (Xw [] hs12)) ((Xw_ok [] hs12)) (f := 12) (fn := Tryd.f12) (c := bodyOf Tryd.f12) (by kernel_rfl) (by kernel_rfl) (view := true) (rvs := [.tmp 2]) (by kernel_rfl) (H := (H12 l)) 80 (by kernel_rfl) ?_
 have hL := loop12 l hl
 refine of_eq (q := True ∧ True ∧ True ∧ True ∧ LoopOK (Xw [] hs12) L12_0 { J := chk (0 : Nat) [(0 : Nat), (3 : Nat), (4 : Nat)] (inv12 l) (st12 l), exits := List.map (fun (x : List Nat × Ex) => x.snd) (ex12 l) } (RetR (Xw [] hs12) true true [ResultVar.tmp (2 : Tmp)] [AV.sl I64 (tmL l)] []) ∧ (∃ (y : Nat), inv12 l y ∧ (l = l ∧ True ∧ (0 : Int) = (y : Int) ∧ True) ∧ ([] : List Int) = List.map tm (List.take y l) ∧ True) ∧ (∀ (y : Unit), True → True ∧ True ∧ True ∧ ((↑(List.map tm (List.take (7 : Nat) l)).length : Int) = 0 → True ∧ True ∧ sumPre (List.map tm (List.take (7 : Nat) l)).length [(1 : Int)].length (nat_lit 8) ∧ True ∧ True ∧ True ∧ True ∧ (List.map tm (List.take (7 : Nat) l) ++ [(1 : Int)] = tmL l ∧ True) ∧ True) ∧ (¬(↑(List.map tm (List.take (7 : Nat) l)).length : Int) = 0 → True ∧ True ∧ True ∧ (List.map tm (List.take (7 : Nat) l) = tmL l ∧ True) ∧ True)) ∧ True) (by kernel_rfl) ?_
 simp only [zz]
 refine ⟨hL _, ⟨0, ⟨by omega, by omega⟩, rfl, by simp⟩, fun _ _ => ⟨fun h => ?_, fun h => ?_⟩⟩
 · have : l = [] := by
     have h : (List.map tm (List.take 7 l)).length = 0 := by omega
     rw [List.length_map, List.length_take] at h
     exact List.length_eq_zero_iff.mp (by omega)
   subst this
   exact ⟨by unfold sumPre; simp, by simp [tmL]; try rfl⟩
 · have : l ≠ [] := fun e => by subst e; simp at h
   simp [tmL, this]
def e12v : Entry Tryd.prog gl := entry1 12 ⟨Tryd.f12, by kernel_rfl, by kernel_rfl, by kernel_rfl⟩ SI (fun l => l.length < 1000000000000000) true (fun l => [.sl I64 (tmL l)]) (fun _ => []) call12v
end Go.Am.Bern

/- Bern: the law BernChecks. -/
namespace Go.Am
open Go
/-- Bools that are known. -/
def litB : AV → AV
 | .bool true => .tt
 | .bool false => .ff
 | a => a
theorem TR.litB {E : Env} {I : Nat → Option Inf} {F : Nat → Prop} {w : World} : ∀ {x : AV} {u : Value}, TR E I F w x u → TR E I F w (litB x) u
 | .bool true, _, h => h
 | .bool false, _, h => h
 | _, _, h => by
   unfold Am.litB
   split <;> exact h
theorem GCall.lit {P : Program} {gl : Nat → Option ((t : Ty) × t.D)} {f : FuncId} {sep : Bool} {args res : List AV} {ob0 ob1 : List Ob} (h : GCall P gl f sep args ob0 res ob1) : GCall P gl f sep args ob0 (res.map litB) ob1 := by
 intro E F F0 w a h1 h2 h3 hr
 refine (h E F F0 w a h1 h2 h3 hr).mono ?_
 rintro e w' ⟨E', F', a', he, R⟩
 refine ⟨E', F', a', he, R.retm (by simp) fun i y hy => ?_⟩
 rw [List.getElem?_map] at hy
 cases hx : res[i]? with
 | none => rw [hx] at hy; cases hy
 | some x =>
   rw [hx] at hy
   injection hy with hy
   subst hy
   exact ⟨x, rfl, fun u hu => TR.litB hu⟩
end Go.Am
namespace Go.Am.Bern
open Go Go.Am Go.Proofs
def yesP (p : List Int) : Prop := p.length < 1000000 ∧ isPoly p
end Go.Am.Bern

/- Bern: the law BernLists. -/
namespace Go.Am
open Go
end Go.Am
namespace Go.Am.Bern
open Go Go.Am Go.Proofs
end Go.Am.Bern

/- Bern: the law BernRoots: plain facts. -/
namespace Go.Am.Bern
open Go Go.Am Go.Proofs
theorem gd64 (l : List PQ) : P64.gd l = (decide (chg l = 0) || decide (chg l = 1)) := by
 show decide (chg l ≤ 1) = _
 by_cases h0 : chg l = 0
 · simp [h0]
 · by_cases h1 : chg l = 1
   · simp [h1]
   · simp [h0, h1]; omega
theorem grB_rdB (p : List Int) : ∀ n d k, grB P64.gd p n d k = rdB p n d k
 | 0, d, k => by rw [grB, rdB, gd64]; try rfl
 | n + 1, d, k => by
   rw [grB, rdB, gd64, grB_rdB p n, grB_rdB p n, Bool.or_assoc]; try rfl
theorem keep_append (p : List Int) (a b : List PQ) : keep p (a ++ b) = keep p a ++ keep p b := by unfold keep; rw [List.filter_append]
theorem keep_one (p : List Int) (d k : Nat) (h : P64.gd (qc p d k) = true) : keep p [((d : Int), (k : Int))] = if cgs p d k = 0 then [] else [((d : Int), (k : Int))] := by
 unfold keep cgz cgs
 simp only [List.filter, Int.toNat_natCast]
 by_cases h0 : chg (qc p d k) = 0 <;> simp [h0]
theorem keep_rdL (p : List Int) : ∀ n d k, grB P64.gd p n d k = true → keep p (grL P64.gd p n d k) = rdL p n d k
 | 0, d, k, h => by
   rw [grB] at h
   have h' := h
   rw [gd64] at h'
   rw [grL, if_pos h, keep_one p d k h, rdL]
   unfold cgs
   by_cases h0 : chg (qc p d k) = 0
   · simp [h0]
   · have h1 : chg (qc p d k) = 1 := by simpa [h0] using h'
     simp [h1]
 | n + 1, d, k, h => by
   rw [grB] at h
   rw [grL, rdL]
   by_cases hg : P64.gd (qc p d k) = true
   · have h' := hg
     rw [gd64] at h'
     rw [if_pos hg, keep_one p d k hg]
     unfold cgs
     by_cases h0 : chg (qc p d k) = 0
     · simp [h0]
     · have h1 : chg (qc p d k) = 1 := by simpa [h0] using h'
       simp [h1]
   · have hg' : P64.gd (qc p d k) = false := by simpa using hg
     rw [hg', Bool.false_or, Bool.and_eq_true] at h
     have h' := hg'
     rw [gd64, Bool.or_eq_false_iff] at h'
     have h0 : cgs p d k ≠ 0 := of_decide_eq_false h'.1
     have h1 : cgs p d k ≠ 1 := of_decide_eq_false h'.2
     rw [if_neg hg, if_pos h.1, keep_append, keep_rdL p n _ _ h.1, keep_rdL p n _ _ h.2, if_neg h0, if_neg h1, if_pos (by rw [← grB_rdB]; exact h.1)]
theorem cover_read (p : List Int) : P64.coverB p = readB p := grB_rdB p 6 0 0
theorem roots_read {p : List Int} (h : rootsB p) : rootsP p = readL p := by
 rw [rootsP, if_pos h]
 exact keep_rdL p 6 0 0 h.2.2
theorem num_np (r : Rat) : r.num ≤ 0 ↔ r ≤ 0 := by
 have h : 0 ≤ (-r).num ↔ 0 ≤ -r := Rat.num_nonneg
 rw [Rat.neg_num] at h
 constructor
 · intro h1
   have h2 := Rat.neg_le_neg (h.mp (by omega))
   rwa [Rat.neg_neg] at h2
 · intro h1
   have := h.mpr (by simpa using Rat.neg_le_neg h1)
   omega
section
variable {P : Rat → Prop} (x : Rat) (hP : ∀ a b, P a → P b → P (avg x a b)) (h0 : P 0)
include hP
theorem dcs_all : ∀ (l : List Rat), (∀ r ∈ l, P r) → ∀ r ∈ dcs x l, P r
 | [], _, r, hr => by simp [dcs] at hr
 | [_], _, r, hr => by simp [dcs] at hr
 | a :: b :: l, h, r, hr => by
   rw [dcs] at hr
   rcases List.mem_cons.mp hr with rfl | hr
   · exact hP a b (h a (by simp)) (h b (by simp))
   · exact dcs_all (b :: l) (fun y hy => h y (List.mem_cons_of_mem _ hy)) r hr
include h0
omit hP in
end
theorem avg_nn (a b : Rat) (ha : 0 ≤ a) (hb : 0 ≤ b) : 0 ≤ avg half a b := by
 unfold avg
 have h1 : (0 : Rat) ≤ 1 - half := by decide +kernel
 have h2 : (0 : Rat) ≤ half := by decide +kernel
 exact Rat.add_nonneg (Rat.mul_nonneg ha h1) (Rat.mul_nonneg hb h2)
theorem avg_neg (a b : Rat) : avg half (-a) (-b) = - avg half a b := by
 unfold avg
 rw [Rat.neg_mul, Rat.neg_mul, Rat.neg_add]
theorem avg_np (a b : Rat) (ha : a ≤ 0) (hb : b ≤ 0) : avg half a b ≤ 0 := by
 have h := avg_nn (-a) (-b) (Rat.neg_le_neg ha) (Rat.neg_le_neg hb)
 rw [avg_neg] at h
 have := Rat.neg_le_neg h
 rwa [Rat.neg_neg] at this
end Go.Am.Bern

/- Bern: Positive, with a result of its own. -/
namespace Go.Am.Bern
open Go Go.Am Go.Proofs
theorem call66O (l : List PQ) (h : l.length < 1000000 ∧ l ≠ []) : GCall Tryd.prog gl 66 true [.sl FR l] [] [.own 0 0] [.sc 0 23 Q2 l] := by
 refine gcall_of (X := X []) (X_ok []) (f := 66) (fn := Tryd.f66) (c := bodyOf Tryd.f66) (by kernel_rfl) (by kernel_rfl) (view := false) (rvs := [.tmp 2]) (by kernel_rfl) (H := (H66 l)) 80 (by kernel_rfl) ?_
 have hL := loop66 l h.1
 refine of_eq (q := True ∧ True ∧ True ∧ True ∧ True ∧ LoopOK (X []) L66_0 { J := chks (0 : Nat) [(3 : Nat), (6 : Nat), (7 : Nat), (8 : Nat)] (fm66 l), exits := List.map (fun (x : List Nat × Ex) => x.snd) (ex66 l) } (RetR (X []) true false [ResultVar.tmp (2 : Tmp)] [AV.own (0 : Nat) (0 : Nat)] [Ob.sc (0 : Nat) (23 : TypeId) Q2 l]) ∧ ((∃ (y : Unit), True ∧ (True ∧ l = l ∧ (l.length : Int) = (l.length : Int) ∧ (0 : Int) = 0 ∧ True) ∧ True) ∨ ∃ (y : Nat), y ≤ l.length ∧ (False ∧ l = l ∧ (l.length : Int) = (l.length : Int) ∧ (0 : Int) = (y : Int) ∧ True) ∧ False) ∧ (∀ (y : Unit), l = [] → True ∧ True ∧ True ∧ (False ∧ True) ∧ False) ∧ (∀ (y : Unit), True → True ∧ True ∧ True ∧ (True ∧ True) ∧ l = l ∧ True) ∧ True) (by kernel_rfl) ?_
 simp only [zz]
 exact ⟨hL _, fun _ e => h.2 e, fun _ _ => trivial⟩
def e66O : Entry Tryd.prog gl := entry1 66 ⟨Tryd.f66, by kernel_rfl, by kernel_rfl, by kernel_rfl⟩ SF (fun l => l.length < 1000000 ∧ l ≠ []) true (fun _ => [.own 0 0]) (fun l => [.sc 0 23 Q2 l]) call66O
def fm66z : List Fam := [⟨Unit, fun _ => True, sz66 [], fun _ => 1, fun _ _ => none⟩]
def ex66z : List (List Nat × Ex) := [([3], ⟨0, Unit, fun _ => True, fun _ => ⟨.dead :: .dead :: .dead :: .vv (.slice none 0 0) :: dd 18, []⟩⟩)]
noncomputable def H66z : Nat → Option Hint := fun _ => some ⟨chks 0 [3, 6, 7, 8] fm66z, ex66z.map (·.2)⟩
theorem loop66z (R : Exit → St → Prop) : LoopOK (X []) L66_0 ⟨chks 0 [3, 6, 7, 8] fm66z, ex66z.map (·.2)⟩ R := by
 refine loop_fams (X_ok []) [3, 6, 7, 8] fm66z ex66z 80 ⟨fun _ _ => ?_, trivial⟩
 refine of_eq (q := True ∧ ((0 : Int) < 0 → idxPre (0 : Int) (0 : Nat) ∧ True ∧ True ∧ True ∧ True ∧ True ∧ True ∧ True ∧ True ∧ True ∧ True ∧ sumPre (0 : Nat) [((0 : Int), (0 : Int))].length (nat_lit 16) ∧ True ∧ inR .i64 (1 : Int) ∧ True ∧ ∃ (y : Unit), (True ∧ (1 : Nat) < 1) ∧ (False ∧ ([] : List (Int × Int)) = [] ∧ (0 : Int) = 0 ∧ (1 : Int) = 0 ∧ True) ∧ True) ∧ (¬(0 : Int) < 0 → ∃ (y : Unit), True ∧ (True ∧ True) ∧ True)) (by kernel_rfl) ?_
 simp only [zz]
 exact ⟨fun h => absurd h (by decide), fun _ => trivial⟩
theorem call66N (l : List PQ) (h : l = []) : GCall Tryd.prog gl 66 true [.sl FR l] [] [nl] [] := by
 subst h
 refine gcall_of (X := X []) (X_ok []) (f := 66) (fn := Tryd.f66) (c := bodyOf Tryd.f66) (by kernel_rfl) (by kernel_rfl) (view := false) (rvs := [.tmp 2]) (by kernel_rfl) (H := H66z) 80 (by kernel_rfl) ?_
 have hL := loop66z
 refine of_eq (q := True ∧ True ∧ True ∧ True ∧ True ∧ LoopOK (X []) L66_0 { J := chks (0 : Nat) [(3 : Nat), (6 : Nat), (7 : Nat), (8 : Nat)] fm66z, exits := List.map (fun (x : List Nat × Ex) => x.snd) ex66z } (RetR (X []) true false [ResultVar.tmp (2 : Tmp)] [nl] []) ∧ (∃ (y : Unit), True ∧ (True ∧ ([] : List (Int × Int)) = [] ∧ (0 : Int) = 0 ∧ (0 : Int) = 0 ∧ True) ∧ True) ∧ (∀ (y : Unit), True → True ∧ True ∧ True ∧ (True ∧ True) ∧ True) ∧ True) (by kernel_rfl) ?_
 simp only [zz]
 exact ⟨hL _, fun _ _ => trivial⟩
def e66N : Entry Tryd.prog gl := entry1 66 ⟨Tryd.f66, by kernel_rfl, by kernel_rfl, by kernel_rfl⟩ SF (fun l => l = []) true (fun _ => [nl]) (fun _ => []) call66N
theorem call26s (p : List Int) (h : p.length < 1000000) : GCall Tryd.prog gl 26 true [.sl I64 p] [] [.bool (posB p), .sl Q2 (posK p), .int .i64 (errOf p)] [] := by
 have hlen : (P71.coverL p).length ≤ 64 := grL_len _ p 6 0 0
 by_cases hb : P71.coverB p = true
 · refine gcall_of (X := (Xd [e56, e62, e66O, e63O] (drOf [(4, 1000000)]))) ((Xd_ok _ _)) (f := 26) (fn := Tryd.f26) (c := bodyOf Tryd.f26) (by kernel_rfl) (by kernel_rfl) (view := true) (rvs := [.tmp 2, .tmp 3, .tmp 4]) (by kernel_rfl) (H := fun _ => none) 80 (by kernel_rfl) ?_
   refine of_eq (q := True ∧ True ∧ True ∧ True ∧ (p.length + 1 ≤ 1000000 ∧ True) ∧ True ∧ True ∧ True ∧ (¬errOf p = 0 → True ∧ True ∧ True ∧ True ∧ True ∧ (false = posB p ∧ ([] : List (Int × Int)) = posK p ∧ errOf p = errOf p ∧ True) ∧ True) ∧ (¬¬errOf p = 0 → ((True ∧ ((True ∧ True) ∧ (True ∧ ((((isPoly p ∧ memoOk p [] ∧ P71.coverB p = true) ∧ (True ∧ ((0 : Int) = 0 ∧ (0 : Int) = 0 ∧ True) ∧ (True ∧ True) ∧ True) ∧ (p = p ∧ True ∧ True) ∧ ([] : List ((Int × Int) × List (Int × Int))) = [] ∧ True) ∧ True ∧ True ∧ True) ∧ (True ∧ (p = p ∧ false = false ∧ True ∧ (0 : Int) = 0 ∧ errOf p = errOf p ∧ True ∧ p = p ∧ errOf p = errOf p ∧ errOf p = errOf p ∧ false = false ∧ p = p ∧ True ∧ ((0 : Int) = 0 ∧ (0 : Int) = 0 ∧ True) ∧ True ∧ True) ∧ (p = p ∧ True ∧ True) ∧ P71.coverM p [] = P71.coverM p [] ∧ P71.coverL p = P71.coverL p ∧ True) ∧ True) ∧ True) ∧ True) ∧ (True ∧ ((True ∧ True) ∧ ((((isPoly p ∧ memoOk p [] ∧ P71.coverB p = true) ∧ (True ∧ ((0 : Int) = 0 ∧ (0 : Int) = 0 ∧ True) ∧ (True ∧ True) ∧ True) ∧ (p = p ∧ True ∧ True) ∧ ([] : List ((Int × Int) × List (Int × Int))) = [] ∧ True) ∧ True ∧ True ∧ True) ∧ (True ∧ (p = p ∧ false = false ∧ True ∧ (0 : Int) = 0 ∧ errOf p = errOf p ∧ True ∧ p = p ∧ errOf p = errOf p ∧ errOf p = errOf p ∧ false = false ∧ p = p ∧ True ∧ ((0 : Int) = 0 ∧ (0 : Int) = 0 ∧ True) ∧ True ∧ True) ∧ (p = p ∧ True ∧ True) ∧ P71.coverM p [] = P71.coverM p [] ∧ P71.coverL p = P71.coverL p ∧ True) ∧ True) ∧ True) ∧ True) ∧ True) ∧ (True ∧ (True ∧ ((True ∧ True) ∧ ((((isPoly p ∧ memoOk p [] ∧ P71.coverB p = true) ∧ (True ∧ ((0 : Int) = 0 ∧ (0 : Int) = 0 ∧ True) ∧ (True ∧ True) ∧ True) ∧ (p = p ∧ True ∧ True) ∧ ([] : List ((Int × Int) × List (Int × Int))) = [] ∧ True) ∧ True ∧ True ∧ True) ∧ (True ∧ (p = p ∧ false = false ∧ True ∧ (0 : Int) = 0 ∧ errOf p = errOf p ∧ True ∧ p = p ∧ errOf p = errOf p ∧ errOf p = errOf p ∧ false = false ∧ p = p ∧ True ∧ ((0 : Int) = 0 ∧ (0 : Int) = 0 ∧ True) ∧ True ∧ True) ∧ (p = p ∧ True ∧ True) ∧ P71.coverM p [] = P71.coverM p [] ∧ P71.coverL p = P71.coverL p ∧ True) ∧ True) ∧ True) ∧ True) ∧ True) ∧ True) ∧ True ∧ True ∧ True ∧ (((P71.coverL p).length < 1000000 ∧ ¬P71.coverL p = []) ∧ True) ∧ True ∧ True ∧ True ∧ True ∧ (true = posB p ∧ P71.coverL p = posK p ∧ (0 : Int) = errOf p ∧ True) ∧ True)) (by kernel_rfl) ?_
   simp only [zz]
   refine ⟨by omega, fun he => ?_, fun he => ?_⟩
   · have := errOf_pos he
     simp [posK, posB, this]
   · have hp := errOf_zero he
     exact ⟨⟨⟨⟨hp, memoOk_nil p, hb⟩, ⟨hp, memoOk_nil p, hb⟩⟩, ⟨hp, memoOk_nil p, hb⟩⟩, ⟨by omega, grL_ne _ p hb⟩, by simp [posB, hp, hb], by simp [posK, posB, hp, hb], by simp [errOf, hp]⟩
 · have hb : P71.coverB p = false := by simpa using hb
   refine gcall_of (X := (Xd [e56, e62, e66N, e63N] (drOf [(4, 1000000)]))) ((Xd_ok _ _)) (f := 26) (fn := Tryd.f26) (c := bodyOf Tryd.f26) (by kernel_rfl) (by kernel_rfl) (view := true) (rvs := [.tmp 2, .tmp 3, .tmp 4]) (by kernel_rfl) (H := fun _ => none) 80 (by kernel_rfl) ?_
   refine of_eq (q := True ∧ True ∧ True ∧ True ∧ (p.length + 1 ≤ 1000000 ∧ True) ∧ True ∧ True ∧ True ∧ (¬errOf p = 0 → True ∧ True ∧ True ∧ True ∧ True ∧ (false = posB p ∧ ([] : List (Int × Int)) = posK p ∧ errOf p = errOf p ∧ True) ∧ True) ∧ (¬¬errOf p = 0 → ((True ∧ ((True ∧ True) ∧ (True ∧ ((((isPoly p ∧ memoOk p [] ∧ P71.coverB p = false) ∧ (True ∧ ((0 : Int) = 0 ∧ (0 : Int) = 0 ∧ True) ∧ (True ∧ True) ∧ True) ∧ (p = p ∧ True ∧ True) ∧ ([] : List ((Int × Int) × List (Int × Int))) = [] ∧ True) ∧ True ∧ True ∧ True) ∧ (True ∧ (p = p ∧ false = false ∧ True ∧ (0 : Int) = 0 ∧ errOf p = errOf p ∧ True ∧ p = p ∧ errOf p = errOf p ∧ errOf p = errOf p ∧ false = false ∧ p = p ∧ True ∧ ((0 : Int) = 0 ∧ (0 : Int) = 0 ∧ True) ∧ True ∧ True) ∧ (p = p ∧ True ∧ True) ∧ P71.coverM p [] = P71.coverM p [] ∧ True) ∧ True) ∧ True) ∧ True) ∧ (True ∧ ((True ∧ True) ∧ ((((isPoly p ∧ memoOk p [] ∧ P71.coverB p = false) ∧ (True ∧ ((0 : Int) = 0 ∧ (0 : Int) = 0 ∧ True) ∧ (True ∧ True) ∧ True) ∧ (p = p ∧ True ∧ True) ∧ ([] : List ((Int × Int) × List (Int × Int))) = [] ∧ True) ∧ True ∧ True ∧ True) ∧ (True ∧ (p = p ∧ false = false ∧ True ∧ (0 : Int) = 0 ∧ errOf p = errOf p ∧ True ∧ p = p ∧ errOf p = errOf p ∧ errOf p = errOf p ∧ false = false ∧ p = p ∧ True ∧ ((0 : Int) = 0 ∧ (0 : Int) = 0 ∧ True) ∧ True ∧ True) ∧ (p = p ∧ True ∧ True) ∧ P71.coverM p [] = P71.coverM p [] ∧ True) ∧ True) ∧ True) ∧ True) ∧ True) ∧ (True ∧ (True ∧ ((True ∧ True) ∧ ((((isPoly p ∧ memoOk p [] ∧ P71.coverB p = false) ∧ (True ∧ ((0 : Int) = 0 ∧ (0 : Int) = 0 ∧ True) ∧ (True ∧ True) ∧ True) ∧ (p = p ∧ True ∧ True) ∧ ([] : List ((Int × Int) × List (Int × Int))) = [] ∧ True) ∧ True ∧ True ∧ True) ∧ (True ∧ (p = p ∧ false = false ∧ True ∧ (0 : Int) = 0 ∧ errOf p = errOf p ∧ True ∧ p = p ∧ errOf p = errOf p ∧ errOf p = errOf p ∧ false = false ∧ p = p ∧ True ∧ ((0 : Int) = 0 ∧ (0 : Int) = 0 ∧ True) ∧ True ∧ True) ∧ (p = p ∧ True ∧ True) ∧ P71.coverM p [] = P71.coverM p [] ∧ True) ∧ True) ∧ True) ∧ True) ∧ True) ∧ True) ∧ True ∧ True ∧ True ∧ (([] : List (Int × Int)) = [] ∧ True) ∧ True ∧ True ∧ True ∧ True ∧ (false = posB p ∧ ([] : List (Int × Int)) = posK p ∧ (0 : Int) = errOf p ∧ True) ∧ True)) (by kernel_rfl) ?_
   simp only [zz]
   refine ⟨by omega, fun he => ?_, fun he => ?_⟩
   · have := errOf_pos he
     simp [posK, posB, this]
   · have hp := errOf_zero he
     exact ⟨⟨⟨⟨hp, memoOk_nil p, hb⟩, ⟨hp, memoOk_nil p, hb⟩⟩, ⟨hp, memoOk_nil p, hb⟩⟩, by simp [posB, hp, hb], by simp [posK, posB, hp, hb], by simp [errOf, hp]⟩
end Go.Am.Bern

/- Bern: plain facts for BernPositive. -/
namespace Go.Am.Bern
open Go Go.Am Go.Proofs
theorem posL_qs {l : List Rat} : posL (qs l) ↔ ∀ r ∈ l, 0 < r := by
 have hn : ∀ r : Rat, 0 < r.num ↔ 0 < r := fun r => by
   have := num_np r
   constructor
   · intro h
     exact Rat.not_le.mp fun hc => by have := this.mpr hc; omega
   · intro h
     false_or_by_contra
     rename_i hc
     exact Rat.not_le.mpr h (this.mp (by omega))
 unfold posL qs
 simp [qp, hn]
section
variable {P : Rat → Prop} (x : Rat) (hP : ∀ a b, P a → P b → P (avg x a b))
include hP
theorem divL_all' : ∀ (n : Nat) (l : List Rat), n ≤ l.length → (∀ r ∈ l, P r) → ∀ r ∈ divL x n l, P r
 | 0, _, _, _, r, hr => by simp [divL] at hr
 | n + 1, l, hn, h, r, hr => by
   rw [divL] at hr
   rcases List.mem_cons.mp hr with rfl | hr
   · exact h _ (getD_mem (by omega))
   · exact divL_all' n _ (by rw [dcs_length]; omega) (dcs_all x hP l h) r hr
theorem divR_all' : ∀ (n : Nat) (l acc : List Rat), n ≤ l.length → (∀ r ∈ l, P r) → (∀ r ∈ acc, P r) → ∀ r ∈ divR x n l acc, P r
 | 0, _, _, _, _, h, r, hr => h r hr
 | n + 1, l, acc, hn, h, ha, r, hr => by
   rw [divR] at hr
   refine divR_all' n _ _ (by rw [dcs_length]; omega) (dcs_all x hP l h) (fun y hy => ?_) r hr
   rcases List.mem_cons.mp hy with rfl | hy
   · exact h _ (getD_mem (by omega))
   · exact ha y hy
end
theorem avg_pos (a b : Rat) (ha : 0 < a) (hb : 0 < b) : 0 < avg half a b := by
 unfold avg
 have h1 : (0 : Rat) < 1 - half := by decide +kernel
 have h2 : (0 : Rat) < half := by decide +kernel
 have h3 := Rat.mul_pos ha h1
 have h4 := Rat.mul_pos hb h2
 refine Rat.not_le.mp fun hc => ?_
 have h5 : a * (1 - half) + 0 ≤ a * (1 - half) + b * half := Rat.add_le_add_left.mpr (Rat.le_of_lt h4)
 rw [Rat.add_zero] at h5
 exact Rat.not_le.mpr h3 (Rat.le_trans h5 hc)
theorem pos_step {p : List Int} {d k : Nat} (h : posL (qc p d k)) : posL (qc p (d + 1) (2 * k)) ∧ posL (qc p (d + 1) (2 * k + 1)) := by
 unfold qc at *
 rw [posL_qs] at *
 rw [posL_qs]
 constructor
 · rw [cnr, if_pos (by omega), show 2 * k / 2 = k by omega]
   exact divL_all' half avg_pos _ _ (Nat.le_refl _) h
 · rw [cnr, if_neg (by omega), show (2 * k + 1) / 2 = k by omega]
   exact divR_all' half avg_pos _ _ _ (Nat.le_refl _) h (fun y hy => by simp at hy)
theorem halves (n k j : Nat) : k * 2 ^ (n + 1) ≤ j ∧ j < (k + 1) * 2 ^ (n + 1) ↔ (2 * k * 2 ^ n ≤ j ∧ j < (2 * k + 1) * 2 ^ n) ∨ ((2 * k + 1) * 2 ^ n ≤ j ∧ j < (2 * k + 1 + 1) * 2 ^ n) := by
 have e0 : 2 ^ (n + 1) = 2 * 2 ^ n := by rw [Nat.pow_succ, Nat.mul_comm]
 have e1 : 2 * k * 2 ^ n = k * 2 ^ (n + 1) := by rw [e0, ← Nat.mul_assoc, Nat.mul_comm 2 k]
 have e2 : (2 * k + 1) * 2 ^ n = k * 2 ^ (n + 1) + 2 ^ n := by rw [Nat.add_mul, e1, Nat.one_mul]
 have e3 : (2 * k + 1 + 1) * 2 ^ n = k * 2 ^ (n + 1) + 2 ^ n + 2 ^ n := by rw [Nat.add_mul, e2, Nat.one_mul]
 have e4 : (k + 1) * 2 ^ (n + 1) = k * 2 ^ (n + 1) + 2 ^ n + 2 ^ n := by rw [Nat.add_mul, Nat.one_mul, e0]; omega
 omega
theorem pos_below {p : List Int} : ∀ (n d k : Nat), posL (qc p d k) → ∀ j, k * 2 ^ n ≤ j ∧ j < (k + 1) * 2 ^ n → posL (qc p (d + n) j)
 | 0, d, k, h, j, hj => by
   have : j = k := by simp at hj; omega
   subst this; exact h
 | n + 1, d, k, h, j, hj => by
   have hz := pos_step h
   rw [show d + (n + 1) = d + 1 + n by omega]
   rcases (halves n k j).mp hj with hj | hj
   · exact pos_below n (d + 1) (2 * k) hz.1 j hj
   · exact pos_below n (d + 1) (2 * k + 1) hz.2 j hj
theorem grB_pos (p : List Int) : ∀ (n d k : Nat), grB P71.gd p n d k = true ↔ ∀ j, k * 2 ^ n ≤ j ∧ j < (k + 1) * 2 ^ n → posL (qc p (d + n) j)
 | 0, d, k => by
   rw [grB, show P71.gd (qc p d k) = decide (posL (qc p d k)) from rfl, decide_eq_true_iff]
   exact ⟨fun h => pos_below 0 d k h, fun h => h k (by simp)⟩
 | n + 1, d, k => by
   rw [grB, show P71.gd (qc p d k) = decide (posL (qc p d k)) from rfl, Bool.or_eq_true, Bool.and_eq_true, decide_eq_true_iff, grB_pos p n, grB_pos p n, show d + (n + 1) = d + 1 + n by omega]
   constructor
   · rintro (h | ⟨h1, h2⟩) j hj
     · have := pos_below (n + 1) d k h j hj
       rwa [show d + (n + 1) = d + 1 + n by omega] at this
     · rcases (halves n k j).mp hj with hj | hj
       · exact h1 j hj
       · exact h2 j hj
   · intro h
     exact .inr ⟨fun j hj => h j ((halves n k j).mpr (.inl hj)), fun j hj => h j ((halves n k j).mpr (.inr hj))⟩
theorem cover_pos (p : List Int) : P71.coverB p = decide (posP p) := by
 have h : P71.coverB p = true ↔ posP p := by
   rw [show P71.coverB p = grB P71.gd p 6 0 0 from rfl, grB_pos]
   exact ⟨fun h k hk => h k ⟨by omega, by simpa using hk⟩, fun h j hj => h j (by simpa using hj.2)⟩
 by_cases hp : posP p
 · rw [h.mpr hp, decide_eq_true hp]
 · rw [decide_eq_false hp]
   cases hb : P71.coverB p with
   | false => rfl
   | true => exact absurd (h.mp hb) hp
end Go.Am.Bern

/- Bern: the law BernPositive. -/
namespace Go.Am.Bern
open Go Go.Am Go.Proofs
def pY (p : List Int) : Prop := yesP p ∧ posP p
def pN (p : List Int) : Prop := yesP p ∧ ¬ posP p
theorem y26c (p : List Int) (h : pY p) : GCall Tryd.prog gl 26 true [.sl I64 p] [] [.tt, .sl Q2 (P71.coverL p), .int .i64 0] [] := by
 have := call26s p h.1.1
 have f0 : posB p = true := by simp [posB, cover_pos, h.1.2, h.2]
 rw [f0, show posK p = P71.coverL p by rw [posK, if_pos f0], show errOf p = 0 by simp [errOf, h.1.2]] at this; exact this.lit
def y26 : Entry Tryd.prog gl := entry1 26 ⟨Tryd.f26, by kernel_rfl, by kernel_rfl, by kernel_rfl⟩ SI pY true (fun p => [.tt, .sl Q2 (P71.coverL p), .int .i64 0]) (fun _ => []) y26c
theorem n26c (p : List Int) (h : pN p) : GCall Tryd.prog gl 26 true [.sl I64 p] [] [.ff, .sl Q2 [], .int .i64 0] [] := by
 have := call26s p h.1.1
 have f0 : posB p = false := by simp [posB, cover_pos, h.2]
 rw [f0, show posK p = [] by rw [posK, f0]; rfl, show errOf p = 0 by simp [errOf, h.1.2]] at this; exact this.lit
def n26' : Entry Tryd.prog gl := entry1 26 ⟨Tryd.f26, by kernel_rfl, by kernel_rfl, by kernel_rfl⟩ SI pN true (fun _ => [.ff, .sl Q2 [], .int .i64 0]) (fun _ => []) n26c
theorem y29c (p : List Int) (h : yesP p) : GCall Tryd.prog gl 29 true [.sl I64 p] [] [ofD Q2 (lowQ p), .bool (lowP p).isSome, .int .i64 0] [] := by
 have := call29 p h.1
 rwa [show low29 p = lowQ p by simp [low29, h.2], show (decide (isPoly p) && (lowP p).isSome) = (lowP p).isSome by simp [h.2], show errOf p = 0 by simp [errOf, h.2]] at this
def y29 : Entry Tryd.prog gl := entry1 29 ⟨Tryd.f29, by kernel_rfl, by kernel_rfl, by kernel_rfl⟩ SI yesP true (fun p => [ofD Q2 (lowQ p), .bool (lowP p).isSome, .int .i64 0]) (fun _ => []) y29c
end Go.Am.Bern

/- Bern: the law BernRoots. -/
namespace Go.Am.Bern
open Go Go.Am Go.Proofs
def pC (p : List Int) : Prop := yesP p ∧ plainP p ∧ readB p = true
theorem pC_roots {p : List Int} (h : pC p) : rootsB p := ⟨h.1.2, h.2.1, by rw [cover_read]; exact h.2.2⟩
theorem c20c (p : List Int) (h : pC p) : GCall Tryd.prog gl 20 false [.sl I64 p] [] [.sl Q2 (readL p), .int .i64 0] [] := by
 have := call20 p h.1.1
 rwa [roots_read (pC_roots h), show rootsE p = 0 by simp [rootsE, cover_read, h.1.2, h.2.1, h.2.2]] at this
def c20 : Entry Tryd.prog gl := entry1 20 ⟨Tryd.f20, by kernel_rfl, by kernel_rfl, by kernel_rfl⟩ SI pC false (fun p => [.sl Q2 (readL p), .int .i64 0]) (fun _ => []) c20c
theorem c21c (p : List Int) (h : pC p) : GCall Tryd.prog gl 21 false [.sl I64 p] [] [.int .i64 (readL p).length, .int .i64 0] [] := by
 have := call21 p h.1.1
 rwa [roots_read (pC_roots h), show rootsE p = 0 by simp [rootsE, cover_read, h.1.2, h.2.1, h.2.2]] at this
def c21 : Entry Tryd.prog gl := entry1 21 ⟨Tryd.f21, by kernel_rfl, by kernel_rfl, by kernel_rfl⟩ SI pC false (fun p => [.int .i64 (readL p).length, .int .i64 0]) (fun _ => []) c21c
end Go.Am.Bern

/- Bern: changes of sign: what does not raise them. -/
namespace Go.Am.Bern
open Go Go.Am Go.Proofs
/-- One step of counting. -/
def stp (last a : Int) : Nat := if a = 0 then 0 else if last ≠ 0 ∧ ¬ (a < 0 ↔ last < 0) then 1 else 0
def nxt (last a : Int) : Int := if a = 0 then last else a
theorem stp_zero (a : Int) : stp a 0 = 0 := if_pos rfl
theorem nxt_zero (a : Int) : nxt a 0 = a := if_pos rfl
theorem chgS_cons (last a : Int) (l : List Int) : chgS last (a :: l) = stp last a + chgS (nxt last a) l := by
 rw [chgS, stp, nxt]
 by_cases h : a = 0
 · rw [if_pos h, if_pos h, if_pos h, Nat.zero_add]
 · rw [if_neg h, if_neg h, if_neg h]
theorem chgS_same {a b : Int} (h1 : a = 0 ↔ b = 0) (h2 : a < 0 ↔ b < 0) : ∀ l, chgS a l = chgS b l := by
 intro l
 rw [← chgS_sgn l a, ← chgS_sgn l b]
 congr 1
 unfold sgn
 split <;> split <;> (try split) <;> (try split) <;> omega
theorem chgS_tri (a b : Int) : ∀ l, chgS a l ≤ stp a b + chgS (nxt a b) l
 | [] => Nat.zero_le _
 | c :: l => by
   rw [chgS_cons, chgS_cons]
   by_cases hb : b = 0
   · subst hb; simp [stp, nxt]
   by_cases hc : c = 0
   · subst hc
     have := chgS_tri a b l
     simpa [stp, nxt] using this
   · have e : nxt (nxt a b) c = nxt a c := by simp [nxt, hc]
     rw [e]
     have : stp a c ≤ stp a b + stp (nxt a b) c := by
       simp only [stp, nxt, hb, hc, if_false]
       split <;> split <;> split <;> omega
     omega
theorem chgS_sub {l m : List Int} (h : List.Sublist l m) : ∀ a, chgS a l ≤ chgS a m := by
 induction h with
 | slnil => intro a; exact Nat.le_refl _
 | @cons l m b _ ih =>
   intro a
   rw [chgS_cons]
   exact Nat.le_trans (chgS_tri a b l) (Nat.add_le_add_left (ih _) _)
 | @cons_cons l m b _ ih =>
   intro a
   rw [chgS_cons, chgS_cons]
   exact Nat.add_le_add_left (ih _) _
/-- What lies between two numbers. -/
def btw (a b c : Int) : Prop := (0 ≤ a → 0 ≤ b → 0 ≤ c) ∧ (a ≤ 0 → b ≤ 0 → c ≤ 0)
theorem chgS_ins {a b c : Int} (h : btw a b c) (p : Int) (l : List Int) : chgS p (a :: c :: b :: l) = chgS p (a :: b :: l) := by
 obtain ⟨h1, h2⟩ := h
 simp only [chgS_cons]
 by_cases hc : c = 0
 · subst hc; rw [stp_zero, nxt_zero, Nat.zero_add]
 by_cases hb : b = 0
 · subst hb
   by_cases ha : a = 0
   · subst ha; omega
   · have e1 : stp p a + (stp (nxt p a) c + (stp (nxt (nxt p a) c) 0 + chgS (nxt (nxt (nxt p a) c) 0) l)) = stp p a + (stp a c + chgS c l) := by simp [stp, nxt, ha, hc]
     have e2 : stp p a + (stp (nxt p a) 0 + chgS (nxt (nxt p a) 0) l) = stp p a + chgS a l := by simp [stp, nxt, ha]
     have hs : a < 0 ↔ c < 0 := by omega
     rw [e1, e2, chgS_same (a := c) (b := a) (by omega) hs.symm, show stp a c = 0 by unfold stp; rw [if_neg hc, if_neg (by omega)], Nat.zero_add]
 · have e0 : nxt (nxt (nxt p a) c) b = b := by simp [nxt, hb]
   have e0' : nxt (nxt p a) b = b := by simp [nxt, hb]
   rw [e0, e0']
   have : stp (nxt p a) c + stp (nxt (nxt p a) c) b = stp (nxt p a) b := by
     have e1 : nxt (nxt p a) c = c := by simp [nxt, hc]
     rw [e1]
     by_cases ha : a = 0
     · subst ha
       have e2 : nxt p 0 = p := by simp [nxt]
       have hs : b < 0 ↔ c < 0 := by omega
       rw [e2]
       unfold stp
       rw [if_neg hc, if_neg hb, if_neg hb]
       split <;> split <;> split <;> omega
     · have e2 : nxt p a = a := by simp [nxt, ha]
       rw [e2]
       unfold stp
       rw [if_neg hc, if_neg hb, if_neg hb]
       split <;> split <;> split <;> omega
   omega
/-- Lists between whose neighbours others lie. -/
def btwL : List Int → List Int → Prop
 | a :: b :: l, c :: m => btw a b c ∧ btwL (b :: l) m
 | [_], [] => True
 | _, _ => False
theorem chgS_cut : ∀ (l m : List Int) (p : Int) (r : List Int), btwL l m → chgS p (l.take 1 ++ m ++ l.drop (l.length - 1) ++ r) ≤ chgS p (l ++ r)
 | [], [], _, _, h => h.elim
 | [], _ :: _, _, _, h => h.elim
 | [a], [], p, r, _ => by
   simp only [List.take, List.length, List.append_nil, List.nil_append, List.singleton_append, List.cons_append, Nat.sub_self, List.drop]
   rw [chgS_cons, chgS_cons, chgS_cons]
   by_cases ha : a = 0
   · subst ha; simp [stp, nxt]
   · simp [stp, nxt, ha]
 | [_], _ :: _, _, _, h => h.elim
 | a :: b :: l, [], _, _, h => h.elim
 | a :: b :: l, c :: m, p, r, h => by
   obtain ⟨h1, h2⟩ := h
   have ih := chgS_cut (b :: l) m (nxt (nxt p a) c) r h2
   have e : chgS p (a :: b :: l ++ r) = chgS p (a :: c :: b :: (l ++ r)) := (chgS_ins h1 p _).symm
   rw [e]
   have e2 : (a :: b :: l).take 1 ++ c :: m ++ (a :: b :: l).drop ((a :: b :: l).length - 1) ++ r = a :: c :: (m ++ (b :: l).drop ((b :: l).length - 1) ++ r) := by
     simp
   rw [e2, chgS_cons, chgS_cons, chgS_cons _ a, chgS_cons _ c]
   refine Nat.add_le_add_left (Nat.add_le_add_left (Nat.le_trans (chgS_sub ?_ _) ih) _) _
   simp only [List.take, List.append_assoc, List.singleton_append, List.cons_append]
   exact List.sublist_cons_self _ _
end Go.Am.Bern

/- Bern: changes of sign under division and raising. -/
namespace Go.Am.Bern
open Go Go.Am Go.Proofs
def nm (l : List Rat) : List Int := l.map (·.num)
theorem chg_nm (l : List Rat) : chg (qs l) = chgS 0 (nm l) := by
 unfold chg qs nm
 rw [List.map_map]; try rfl
theorem btw_rat {a b c : Rat} (h1 : 0 ≤ a → 0 ≤ b → 0 ≤ c) (h2 : a ≤ 0 → b ≤ 0 → c ≤ 0) : btw a.num b.num c.num :=
 ⟨fun ha hb => Rat.num_nonneg.mpr (h1 (Rat.num_nonneg.mp ha) (Rat.num_nonneg.mp hb)), fun ha hb => (num_np c).mpr (h2 ((num_np a).mp ha) ((num_np b).mp hb))⟩
theorem dcs_btw {x : Rat} (hx : ∀ a b : Rat, (0 ≤ a → 0 ≤ b → 0 ≤ avg x a b) ∧ (a ≤ 0 → b ≤ 0 → avg x a b ≤ 0)) : ∀ (l : List Rat), l ≠ [] → btwL (nm l) (nm (dcs x l))
 | [], h => absurd rfl h
 | [_], _ => trivial
 | a :: b :: l, _ => ⟨btw_rat (hx a b).1 (hx a b).2, dcs_btw hx (b :: l) (by simp)⟩
theorem chgS_pre {a b : List Int} (h : ∀ q, chgS q a ≤ chgS q b) : ∀ (l : List Int) (p : Int), chgS p (l ++ a) ≤ chgS p (l ++ b)
 | [], p => h p
 | c :: l, p => by
   rw [List.cons_append, List.cons_append, chgS_cons, chgS_cons]
   exact Nat.add_le_add_left (chgS_pre h l _) _
theorem chgS_any : ∀ (l : List Int) (p : Int), chgS 0 l ≤ chgS p l
 | [], _ => Nat.le_refl _
 | a :: l, p => by
   rw [chgS_cons, chgS_cons]
   by_cases ha : a = 0
   · subst ha; rw [stp_zero, stp_zero, nxt_zero, nxt_zero]; exact Nat.add_le_add_left (chgS_any l p) _
   · have e1 : nxt 0 a = a := if_neg ha
     have e2 : nxt p a = a := if_neg ha
     have e3 : stp 0 a = 0 := by simp [stp]
     rw [e1, e2, e3]; omega
theorem chgS_app : ∀ (l m : List Int) (p : Int), chgS p l + chgS 0 m ≤ chgS p (l ++ m)
 | [], m, p => by
   have := chgS_any m p
   show 0 + chgS 0 m ≤ chgS p m
   omega
 | a :: l, m, p => by
   have := chgS_app l m (nxt p a)
   rw [List.cons_append, chgS_cons, chgS_cons]; omega
theorem div_chg {x : Rat} (hx : ∀ a b : Rat, (0 ≤ a → 0 ≤ b → 0 ≤ avg x a b) ∧ (a ≤ 0 → b ≤ 0 → avg x a b ≤ 0)) (p : Int) : ∀ (n : Nat) (row left right : List Rat), row.length = n →
   chgS p (nm left ++ nm (divL x n row) ++ nm (divR x n row right)) ≤ chgS p (nm left ++ nm row ++ nm right)
 | 0, row, left, right, h => by
   have : row = [] := List.eq_nil_of_length_eq_zero h
   subst this
   exact Nat.le_refl _
 | n + 1, row, left, right, h => by
   have hne : row ≠ [] := fun e => by subst e; simp at h
   have ih := div_chg hx p n (dcs x row) (left ++ [row.getD 0 0]) (row.getD (row.length - 1) 0 :: right) (by rw [dcs_length]; omega)
   rw [divL, divR]
   have e1 : nm left ++ nm (row.getD 0 0 :: divL x n (dcs x row)) = nm (left ++ [row.getD 0 0]) ++ nm (divL x n (dcs x row)) := by simp [nm]
   rw [e1]
   refine Nat.le_trans ih ?_
   have hc := fun q => chgS_cut (nm row) (nm (dcs x row)) q (nm right) (dcs_btw hx row hne)
   have e2 : nm (left ++ [row.getD 0 0]) ++ nm (dcs x row) ++ nm (row.getD (row.length - 1) 0 :: right) = nm left ++ ((nm row).take 1 ++ nm (dcs x row) ++ (nm row).drop ((nm row).length - 1) ++ nm right) := by
     have h1 : (nm row).take 1 = nm [row.getD 0 0] := by
       cases row with
       | nil => exact absurd rfl hne
       | cons a l => rfl
     have h2 : (nm row).drop ((nm row).length - 1) = nm [row.getD (row.length - 1) 0] := by
       have hl : (nm row).length = row.length := List.length_map ..
       unfold nm at *
       rw [hl, ← List.map_drop, drop_getD (d := 0) (by omega)]
       rw [show row.length - 1 + 1 = row.length by omega, List.drop_length]
     rw [h1, h2]
     simp [nm]
   rw [e2, List.append_assoc (nm left)]
   exact chgS_pre hc _ _
theorem dv_chg {x : Rat} (hx : ∀ a b : Rat, (0 ≤ a → 0 ≤ b → 0 ≤ avg x a b) ∧ (a ≤ 0 → b ≤ 0 → avg x a b ≤ 0)) (l : List Rat) : chg (qs (dvL x l)) + chg (qs (dvR x l)) ≤ chg (qs l) := by
 have h := div_chg hx 0 l.length l [] [] rfl
 rw [chg_nm, chg_nm, chg_nm]
 refine Nat.le_trans (chgS_app _ _ _) (Nat.le_trans (show _ ≤ _ from h) ?_)
 simp [nm]
theorem half_avg (a b : Rat) : (0 ≤ a → 0 ≤ b → 0 ≤ avg half a b) ∧ (a ≤ 0 → b ≤ 0 → avg half a b ≤ 0) := ⟨avg_nn a b, avg_np a b⟩
theorem halves_chg (l : List Rat) : chg (qs (dvL half l)) + chg (qs (dvR half l)) ≤ chg (qs l) := dv_chg half_avg l
end Go.Am.Bern

/- Bern: corners and values: averages of sequences. -/
namespace Go.Am.Bern
open Go Go.Am Go.Proofs
def av (t : Rat) (a : Nat → Rat) (i : Nat) : Rat := a i * (1 - t) + a (i + 1) * t
def itr (t : Rat) : Nat → (Nat → Rat) → Nat → Rat
 | 0, a => a
 | n + 1, a => itr t n (av t a)
theorem itr_lin (t u v : Rat) : ∀ (n : Nat) (a b : Nat → Rat) (i : Nat), itr t n (fun j => u * a j + v * b j) i = u * itr t n a i + v * itr t n b i
 | 0, _, _, _ => rfl
 | n + 1, a, b, i => by
   rw [itr, itr, itr, ← itr_lin t u v n]
   congr 1
   funext j
   unfold av
   grind
theorem itr_out (t : Rat) : ∀ (n : Nat) (a : Nat → Rat) (i : Nat), itr t (n + 1) a i = av t (itr t n a) i
 | 0, _, _ => rfl
 | n + 1, a, i => by rw [itr, itr_out t n, itr]
/-- The left part of a division. -/
theorem itr_left (x t : Rat) : ∀ (j : Nat) (a : Nat → Rat) (k : Nat), itr t j (fun i => itr x i a 0) k = itr (t * x) j (itr x k a) 0
 | 0, _, _ => rfl
 | j + 1, a, k => by
   rw [itr_out, av, itr_left x t j, itr_left x t j]
   have e : itr x (k + 1) a = av x (itr x k a) := by funext i; exact itr_out x k a i
   rw [e, itr]
   have e2 : av (t * x) (itr x k a) = fun i => (1 - t) * itr x k a i + t * av x (itr x k a) i := by
     funext i; unfold av; grind
   rw [e2, itr_lin]
   grind
/-- The right part: counted from its end. -/
theorem itr_shift (t : Rat) : ∀ (n : Nat) (a : Nat → Rat) (k i : Nat), itr t n (fun j => a (j + k)) i = itr t n a (i + k)
 | 0, _, _, _ => rfl
 | n + 1, a, k, i => by
   rw [itr, itr, ← itr_shift t n (av t a) k i]
   congr 1
   funext j
   unfold av
   show a (j + k) * (1 - t) + a (j + 1 + k) * t = _
   rw [show j + 1 + k = j + k + 1 by omega]
theorem itr_zero : ∀ (n : Nat) (a : Nat → Rat) (i : Nat), itr 0 n a i = a i
 | 0, _, _ => rfl
 | n + 1, a, i => by
   rw [itr, itr_zero n]; unfold av; grind
theorem itr_one : ∀ (n : Nat) (a : Nat → Rat) (i : Nat), itr 1 n a i = a (i + n)
 | 0, _, _ => rfl
 | n + 1, a, i => by
   rw [itr, itr_one n]; unfold av
   rw [show i + n + 1 = i + (n + 1) by omega]; grind
theorem itr_right (x t : Rat) : ∀ (j m : Nat) (a : Nat → Rat) (k : Nat), k + j ≤ m → itr t j (fun i => itr x (m - i) a i) k = itr (x + t - t * x) j (itr x (m - k - j) a) k
 | 0, m, a, k, _ => by simp [itr]
 | j + 1, m, a, k, h => by
   rw [itr_out, av, itr_right x t j m a k (by omega), itr_right x t j m a (k + 1) (by omega)]
   have e1 : itr x (m - k - j) a = av x (itr x (m - k - (j + 1)) a) := by
     funext i; rw [← itr_out, show m - k - (j + 1) + 1 = m - k - j by omega]
   have e2 : m - (k + 1) - j = m - k - (j + 1) := by omega
   rw [e1, e2, itr]
   generalize itr x (m - k - (j + 1)) a = b
   have e3 : itr (x + t - t * x) j b (k + 1) = itr (x + t - t * x) j (fun i => b (i + 1)) k := (itr_shift _ _ b 1 k).symm
   rw [e3]
   have e4 : av (x + t - t * x) b = fun i => (1 - t) * av x b i + t * (fun i => b (i + 1)) i := by
     funext i; unfold av; grind
   rw [e4, itr_lin]
   grind
/-- A list as a sequence; what a division leaves. -/
def sqn (l : List Rat) (i : Nat) : Rat := l.getD i 0
theorem itr_dcs (x : Rat) : ∀ (n : Nat) (l : List Rat) (i : Nat), i + n < l.length → itr x n (sqn l) i = match n with
   | 0 => sqn l i
   | n + 1 => itr x n (sqn (dcs x l)) i
 | 0, _, _, _ => rfl
 | n + 1, l, i, h => by
   rw [itr]
   have : ∀ (m : Nat) (a b : Nat → Rat) (i : Nat), (∀ j, i ≤ j → j ≤ i + m → a j = b j) → itr x m a i = itr x m b i := by
     intro m
     induction m with
     | zero => intro a b i h; exact h i (Nat.le_refl _) (by omega)
     | succ m ih =>
       intro a b i h
       rw [itr, itr]
       refine ih _ _ i fun j h1 h2 => ?_
       unfold av
       rw [h j h1 (by omega), h (j + 1) (by omega) (by omega)]
   refine this n _ _ i fun j h1 h2 => ?_
   unfold av sqn
   rw [dcs_getD x l j (by omega)]
   unfold avg
   grind
theorem divL_itr (x : Rat) : ∀ (n : Nat) (l : List Rat) (i : Nat), n ≤ l.length → i < n → (divL x n l).getD i 0 = itr x i (sqn l) 0
 | 0, _, _, _, h => absurd h (Nat.not_lt_zero _)
 | n + 1, l, 0, _, _ => by rw [divL]; try rfl
 | n + 1, l, i + 1, hn, h => by
   rw [divL, List.getD_cons_succ, divL_itr x n (dcs x l) i (by rw [dcs_length]; omega) (by omega), itr_dcs x (i + 1) l 0 (by omega)]
theorem divR_itr (x : Rat) : ∀ (n : Nat) (l acc : List Rat) (i : Nat), l.length = n → i < n + acc.length → (divR x n l acc).getD i 0 = if i < n then itr x (n - 1 - i) (sqn l) i else acc.getD (i - n) 0
 | 0, l, acc, i, h, hi => by rw [divR, if_neg (by omega)]; try rfl
 | n + 1, l, acc, i, h, hi => by
   rw [divR, divR_itr x n (dcs x l) _ i (by rw [dcs_length]; omega) (by simp; omega)]
   by_cases h1 : i < n
   · rw [if_pos h1, if_pos (by omega), show n + 1 - 1 - i = (n - 1 - i) + 1 by omega, itr_dcs x (n - 1 - i + 1) l i (by omega)]
   · by_cases h2 : i < n + 1
     · have : i = n := by omega
       subst this
       rw [if_neg h1, if_pos h2, Nat.sub_self, show i + 1 - 1 - i = 0 by omega, h]
       rfl
     · rw [if_neg h1, if_neg h2, show i - n = (i - (n + 1)) + 1 by omega, List.getD_cons_succ]
end Go.Am.Bern

/- Bern: corners of a piece give the polynomial's values on it. -/
namespace Go.Am.Bern
open Go Go.Am Go.Proofs
theorem itr_congr (t : Rat) : ∀ (m : Nat) (a b : Nat → Rat) (i : Nat), (∀ j, i ≤ j → j ≤ i + m → a j = b j) → itr t m a i = itr t m b i
 | 0, _, _, i, h => h i (Nat.le_refl _) (by omega)
 | m + 1, a, b, i, h => by
   rw [itr, itr]
   refine itr_congr t m _ _ i fun j h1 h2 => ?_
   unfold av
   rw [h j h1 (by omega), h (j + 1) (by omega) (by omega)]
/-- The value that corners tell. -/
def bval (t : Rat) (l : List Rat) : Rat := itr t (l.length - 1) (sqn l) 0
theorem bval_left (x t : Rat) (l : List Rat) : bval t (dvL x l) = bval (t * x) l := by
 unfold bval
 rw [dvL_length]
 cases hl : l.length with
 | zero =>
   have : l = [] := List.eq_nil_of_length_eq_zero hl
   subst this; try rfl
 | succ n =>
   have e : itr t n (sqn (dvL x l)) 0 = itr t n (fun i => itr x i (sqn l) 0) 0 := itr_congr t n _ _ 0 fun j _ h => by
     unfold sqn dvL
     exact divL_itr x l.length l j (Nat.le_refl _) (by omega)
   rw [show n + 1 - 1 = n by omega, e, itr_left]; try rfl
theorem bval_right (x t : Rat) (l : List Rat) : bval t (dvR x l) = bval (x + t - t * x) l := by
 unfold bval
 rw [dvR_length]
 cases hl : l.length with
 | zero =>
   have : l = [] := List.eq_nil_of_length_eq_zero hl
   subst this; try rfl
 | succ n =>
   have e : itr t n (sqn (dvR x l)) 0 = itr t n (fun i => itr x (n - i) (sqn l) i) 0 := itr_congr t n _ _ 0 fun j _ h => by
     unfold sqn dvR
     rw [divR_itr x l.length l [] j rfl (by simp; omega), if_pos (by omega), hl]
     rw [show n + 1 - 1 - j = n - j by omega]; try rfl
   rw [show n + 1 - 1 = n by omega, e, itr_right x t n n (sqn l) 0 (by omega), Nat.sub_zero, Nat.sub_self]; try rfl
theorem bval_zero (l : List Rat) : bval 0 l = l.getD 0 0 := itr_zero _ _ _
theorem bval_one (l : List Rat) : bval 1 l = l.getD (l.length - 1) 0 := by
 unfold bval; rw [itr_one, Nat.zero_add]; try rfl
theorem cnr_val (p : List Int) : ∀ (d k : Nat) (t : Rat), bval t (cnr p d k) = bval ((((k % 2 ^ d : Nat) : Rat) + t) / ((2 ^ d : Nat) : Rat)) (whole p)
 | 0, k, t => by
   rw [cnr, Nat.pow_zero, Nat.mod_one]
   congr 1
   grind
 | d + 1, k, t => by
   have hh : (half : Rat) = 1 / 2 := by decide +kernel
   have hp : ((2 ^ (d + 1) : Nat) : Rat) = 2 * ((2 ^ d : Nat) : Rat) := by
     rw [Nat.pow_succ, Nat.mul_comm]; push_cast; try rfl
   have hne : ((2 ^ d : Nat) : Rat) ≠ 0 := by
     have : (2 ^ d : Nat) ≠ 0 := by have := Nat.two_pow_pos d; omega
     exact_mod_cast this
   rw [cnr]
   have hm : k % 2 ^ (d + 1) = 2 * (k / 2 % 2 ^ d) + k % 2 := by
     rw [Nat.pow_succ, Nat.mul_comm, Nat.mod_mul]; omega
   rw [hm, hp]
   by_cases hk : k % 2 = 0
   · rw [if_pos hk, bval_left, cnr_val p d, hk, hh]
     congr 1
     push_cast
     grind
   · have hk1 : k % 2 = 1 := by omega
     rw [if_neg hk, bval_right, cnr_val p d, hk1, hh]
     congr 1
     push_cast
     grind
end Go.Am.Bern

/- Bern: the corners on the whole give the polynomial. -/
namespace Go.Am.Bern
open Go Go.Am Go.Proofs
def cR (i k : Nat) : Rat := (ch i k : Rat)
theorem cR_zero (i : Nat) : cR i 0 = 1 := by unfold cR; cases i <;> rfl
theorem cR_succ (i k : Nat) : cR (i + 1) (k + 1) = cR i k + cR i (k + 1) := by
 unfold cR; rw [ch]; push_cast; try rfl
theorem cR_none (k : Nat) : cR 0 (k + 1) = 0 := by unfold cR; try rfl
theorem itr_const (t c : Rat) : ∀ (m i : Nat), itr t m (fun _ => c) i = c
 | 0, _ => rfl
 | m + 1, i => by
   rw [itr, show av t (fun _ => c) = fun _ => c by funext i; unfold av; grind]
   exact itr_const t c m i
theorem itr_cR (t : Rat) : ∀ (m k : Nat), itr t m (fun i => cR i k) 0 = cR m k * t ^ k
 | 0, 0 => by rw [itr, cR_zero]; grind
 | 0, k + 1 => by rw [itr, cR_none]; grind
 | m + 1, 0 => by
   rw [show (fun i => cR i 0) = fun _ => (1 : Rat) by funext i; exact cR_zero i, itr_const, cR_zero]; grind
 | m + 1, k + 1 => by
   have e : av t (fun i => cR i (k + 1)) = fun i => 1 * cR i (k + 1) + t * cR i k := by
     funext i
     unfold av
     show cR i (k + 1) * (1 - t) + cR (i + 1) (k + 1) * t = _
     rw [cR_succ]; grind
   rw [itr, e, itr_lin, itr_cR t m (k + 1), itr_cR t m k, cR_succ, Rat.pow_succ]
   grind
def wful (c : Nat → Rat) : Nat → Nat → Rat
 | 0, _ => 0
 | K + 1, i => wful c K i + c K * cR i K
def gsum (c : Nat → Rat) (t : Rat) (m : Nat) : Nat → Rat
 | 0 => 0
 | K + 1 => gsum c t m K + c K * (cR m K * t ^ K)
theorem itr_wful (c : Nat → Rat) (t : Rat) (m : Nat) : ∀ K, itr t m (wful c K) 0 = gsum c t m K
 | 0 => itr_const t 0 m 0
 | K + 1 => by
   have e : wful c (K + 1) = fun i => 1 * wful c K i + c K * cR i K := by funext i; rw [wful]; grind
   rw [e, itr_lin, itr_wful c t m K, itr_cR, gsum]; grind
def psum (p : List Int) (t : Rat) : Nat → Rat
 | 0 => 0
 | K + 1 => psum p t K + (p.getD K 0 : Rat) * t ^ K
theorem psum_cons (a : Int) (l : List Int) (t : Rat) : ∀ K, psum (a :: l) t (K + 1) = (a : Rat) + t * psum l t K
 | 0 => by
   rw [psum, psum, psum]
   show (0 : Rat) + (a : Rat) * t ^ 0 = (a : Rat) + t * 0
   grind
 | K + 1 => by
   rw [psum, psum_cons a l t K, psum, List.getD_cons_succ, Rat.pow_succ]; grind
theorem hval_psum (t : Rat) : ∀ p : List Int, hval t p = psum p t p.length
 | [] => rfl
 | a :: l => by
   rw [hval, List.length_cons, psum_cons, hval_psum t l]; grind
theorem ch_over : ∀ (i k : Nat), i < k → ch i k = 0
 | _, 0, h => absurd h (Nat.not_lt_zero _)
 | 0, k + 1, _ => rfl
 | i + 1, k + 1, h => by rw [ch, ch_over i k (by omega), ch_over i (k + 1) (by omega)]; try rfl
theorem term_cR (p : List Int) (n i k : Nat) : term p n i k = (p.getD k 0 : Rat) / cR n k * cR i k := by
 unfold term cR
 rw [Rat.divInt_eq_div]; push_cast; grind
theorem wsum_wful (p : List Int) (n i : Nat) : ∀ K, wsum p n i K = wful (fun k => (p.getD k 0 : Rat) / cR n k) K i
 | 0 => rfl
 | K + 1 => by rw [wsum, wful, wsum_wful p n i K, term_cR]
theorem wful_over (c : Nat → Rat) (i : Nat) : ∀ j, wful c (i + 1 + j) i = wful c (i + 1) i
 | 0 => rfl
 | j + 1 => by
   rw [show i + 1 + (j + 1) = i + 1 + j + 1 by omega, wful, wful_over c i j]
   have : cR i (i + 1 + j) = 0 := by unfold cR; rw [ch_over i _ (by omega)]; try rfl
   rw [this]; grind
theorem gsum_psum (p : List Int) (t : Rat) {n : Nat} (hn : n ≤ 6) : ∀ K, K ≤ n + 1 → gsum (fun k => (p.getD k 0 : Rat) / cR n k) t n K = psum p t K
 | 0, _ => rfl
 | K + 1, h => by
   rw [gsum, psum, gsum_psum p t hn K (by omega)]
   have hne : cR n K ≠ 0 := by
     have := (ch_facts hn (k := K) (by omega)).1
     unfold cR
     have h0 : ch n K ≠ 0 := by omega
     exact_mod_cast h0
   grind
theorem whole_val {p : List Int} (h1 : 1 ≤ p.length) (h7 : p.length ≤ 7) (t : Rat) : bval t (whole p) = hval t p := by
 unfold bval
 rw [whole_length, hval_psum]
 obtain ⟨n, hn⟩ : ∃ n, p.length = n + 1 := ⟨p.length - 1, by omega⟩
 rw [hn, show n + 1 - 1 = n by omega]
 have e : itr t n (sqn (whole p)) 0 = itr t n (wful (fun k => (p.getD k 0 : Rat) / cR n k) (n + 1)) 0 := itr_congr t n _ _ 0 fun j _ h => by
   have h2 : sqn (whole p) j = wsum p (p.length - 1) j (j + 1) := by
     unfold sqn whole
     rw [List.getD_eq_getElem?_getD, List.getElem?_map, List.getElem?_range (by omega)]; try rfl
   rw [h2, wsum_wful, hn, show n + 1 - 1 = n by omega, ← wful_over _ j (n - j), show j + 1 + (n - j) = n + 1 by omega]
 rw [e, itr_wful, gsum_psum p t (by omega) (n + 1) (Nat.le_refl _)]
theorem cnr_hval {p : List Int} (hp : isPoly p) (d k : Nat) (t : Rat) : bval t (cnr p d k) = hval ((((k % 2 ^ d : Nat) : Rat) + t) / ((2 ^ d : Nat) : Rat)) p := by
 rw [cnr_val, whole_val hp.1 hp.2.1]
end Go.Am.Bern

/- Bern: positive pieces, low points. -/
namespace Go.Am.Bern
open Go Go.Am Go.Proofs
theorem pos_val {p : List Int} (hp : isPoly p) (hc : posP p) {j : Nat} (hj : j ≤ 64) : 0 < hval ((j : Rat) / ((64 : Nat) : Rat)) p := by
 have hlen : ∀ k, 1 ≤ (cnr p 6 k).length := fun k => by rw [cnr_length]; exact hp.1
 rcases Nat.lt_or_ge j 64 with h | h
 · have h1 := posL_qs.mp (hc j h)
   have h2 := cnr_hval hp 6 j 0
   rw [bval_zero, show j % 2 ^ 6 = j by omega, Rat.add_zero] at h2
   rw [show (64 : Nat) = 2 ^ 6 from rfl, ← h2]
   exact h1 _ (getD_mem (hlen j))
 · have : j = 64 := by omega
   subst this
   have h1 := posL_qs.mp (hc 63 (by decide))
   have h2 := cnr_hval hp 6 63 1
   rw [bval_one] at h2
   have e : ((((63 % 2 ^ 6 : Nat) : Rat) + 1) / ((2 ^ 6 : Nat) : Rat)) = ((64 : Nat) : Rat) / ((64 : Nat) : Rat) := by decide +kernel
   rw [e] at h2
   rw [← h2]
   exact h1 _ (getD_mem (by have := hlen 63; omega))
theorem pos_dyad {p : List Int} (hp : isPoly p) (hc : posP p) {d k : Nat} (hd : d ≤ 6) (hk : k ≤ 2 ^ d) : 0 < at' p k (2 ^ d) := by
 unfold at'
 have e : Rat.divInt (k : Int) ((2 ^ d : Nat) : Int) = ((k * 2 ^ (6 - d) : Nat) : Rat) / ((64 : Nat) : Rat) := by
   rw [Rat.divInt_eq_div]
   have h64 : (64 : Nat) = 2 ^ d * 2 ^ (6 - d) := by rw [← Nat.pow_add, show d + (6 - d) = 6 by omega]
   have h1 : ((2 ^ d : Nat) : Rat) ≠ 0 := by have := Nat.two_pow_pos d; exact_mod_cast (show (2 ^ d : Nat) ≠ 0 by omega)
   have h2 : ((2 ^ (6 - d) : Nat) : Rat) ≠ 0 := by have := Nat.two_pow_pos (6 - d); exact_mod_cast (show (2 ^ (6 - d) : Nat) ≠ 0 by omega)
   rw [h64]
   push_cast at *
   grind
 have hle : k * 2 ^ (6 - d) ≤ 64 := by
   have := Nat.mul_le_mul_right (2 ^ (6 - d)) hk
   rwa [← Nat.pow_add, show d + (6 - d) = 6 by omega] at this
 have := pos_val hp hc hle
 rw [← e] at this
 have h0 := num_np (hval (Rat.divInt (k : Int) ((2 ^ d : Nat) : Int)) p)
 false_or_by_contra
 rename_i hn
 exact Rat.not_le.mpr this (h0.mp (by omega))
end Go.Am.Bern

/- Bern: counts and changes of sign. -/
namespace Go.Am.Bern
open Go Go.Am Go.Proofs
theorem pos_lowK {p : List Int} (hp : isPoly p) (hc : posP p) {d : Nat} (hd : d ≤ 6) : ∀ n k, k + n ≤ 2 ^ d + 1 → lowK p (2 ^ d) k n = none
 | 0, _, _ => rfl
 | n + 1, k, h => by
   rw [lowK, if_neg (by have := pos_dyad hp hc hd (k := k) (by omega); omega)]
   exact pos_lowK hp hc hd n (k + 1) (by omega)
theorem pos_lowD {p : List Int} (hp : isPoly p) (hc : posP p) : ∀ n d, d + n ≤ 7 → lowD p d n = none
 | 0, _, _ => rfl
 | n + 1, d, h => by
   rw [lowD, pos_lowK hp hc (by omega) _ 0 (by omega), pos_lowD hp hc n (d + 1) (by omega)]; try rfl
theorem pos_low {p : List Int} (hp : isPoly p) (hc : posP p) : lowP p = none := pos_lowD hp hc 7 0 (Nat.le_refl _)
theorem cgs_halves (p : List Int) (d k : Nat) : cgs p (d + 1) (2 * k) + cgs p (d + 1) (2 * k + 1) ≤ cgs p d k := by
 unfold cgs qc
 rw [cnr, cnr, if_pos (by omega), if_neg (by omega), show 2 * k / 2 = k by omega, show (2 * k + 1) / 2 = k by omega]
 exact halves_chg _
theorem count_le (p : List Int) : ∀ n d k, (rdL p n d k).length ≤ cgs p d k
 | 0, d, k => by
   rw [rdL]
   split
   · exact Nat.zero_le _
   · split
     · simp; omega
     · exact Nat.zero_le _
 | n + 1, d, k => by
   rw [rdL]
   split
   · exact Nat.zero_le _
   · split
     · simp; omega
     · split
       · rw [List.length_append]
         have h1 := count_le p n (d + 1) (2 * k)
         have h2 := count_le p n (d + 1) (2 * k + 1)
         have h3 := cgs_halves p d k
         omega
       · exact Nat.zero_le _
theorem chgS_par : ∀ (l : List Int) (a z : Int), a ≠ 0 → z ≠ 0 → chgS a (l ++ [z]) % 2 = if (a < 0 ↔ z < 0) then 0 else 1
 | [], a, z, ha, hz => by
   rw [List.nil_append, chgS_cons]
   show (stp a z + 0) % 2 = _
   unfold stp
   rw [if_neg hz]
   split <;> split <;> omega
 | b :: l, a, z, ha, hz => by
   rw [List.cons_append, chgS_cons]
   by_cases hb : b = 0
   · subst hb
     rw [stp_zero, nxt_zero, Nat.zero_add]
     exact chgS_par l a z ha hz
   · have e : nxt a b = b := if_neg hb
     have ih := chgS_par l b z hb hz
     rw [e, Nat.add_mod, ih]
     unfold stp
     rw [if_neg hb]
     split <;> split <;> split <;> omega
theorem chg_par {l : List Rat} (h : 1 ≤ l.length) (h0 : l.getD 0 0 ≠ 0) (h1 : l.getD (l.length - 1) 0 ≠ 0) : chg (qs l) % 2 = if ((l.getD 0 0).num < 0 ↔ (l.getD (l.length - 1) 0).num < 0) then 0 else 1 := by
 have n0 : (l.getD 0 0).num ≠ 0 := fun e => h0 (Rat.num_eq_zero.mp e)
 have n1 : (l.getD (l.length - 1) 0).num ≠ 0 := fun e => h1 (Rat.num_eq_zero.mp e)
 rw [chg_nm]
 match l, h with
 | [a], _ =>
   show chgS 0 [a.num] % 2 = _
   have n0 : a.num ≠ 0 := n0
   rw [chgS_cons]
   show (stp 0 a.num + 0) % 2 = if (a.num < 0 ↔ a.num < 0) then 0 else 1
   simp [stp]
 | a :: b :: m, _ =>
   have hz : nm (a :: b :: m) = a.num :: (nm ((b :: m).dropLast) ++ [((a :: b :: m).getD ((a :: b :: m).length - 1) 0).num]) := by
     have e : (b :: m) = (b :: m).dropLast ++ [(b :: m).getLast (by simp)] := (List.dropLast_concat_getLast (by simp)).symm
     have e2 : (a :: b :: m).getD ((a :: b :: m).length - 1) 0 = (b :: m).getLast (by simp) := by
       rw [show (a :: b :: m).length - 1 = (b :: m).length - 1 + 1 by simp, List.getD_cons_succ, List.getLast_eq_getElem, List.getD_eq_getElem?_getD, List.getElem?_eq_getElem (by simp)]; try rfl
     rw [e2]
     show a.num :: nm (b :: m) = _
     conv => lhs; rw [e]
     simp [nm]
   have n0 : a.num ≠ 0 := n0
   rw [hz, chgS_cons]
   have e3 : stp 0 a.num = 0 := by simp [stp]
   have e4 : nxt 0 a.num = a.num := if_neg n0
   rw [e3, e4, Nat.zero_add, chgS_par _ _ _ n0 n1]
   rfl
end Go.Am.Bern

/- Bern: the count of pieces has the parity of the changes of sign. -/
namespace Go.Am.Bern
open Go Go.Am Go.Proofs
theorem dyad {d k : Nat} (hd : d ≤ 6) : Rat.divInt ((k * 2 ^ (6 - d) : Nat) : Int) ((64 : Nat) : Int) = (k : Rat) / ((2 ^ d : Nat) : Rat) := by
 rw [Rat.divInt_eq_div]
 have h64 : (64 : Nat) = 2 ^ d * 2 ^ (6 - d) := by rw [← Nat.pow_add, show d + (6 - d) = 6 by omega]
 have h1 : ((2 ^ d : Nat) : Rat) ≠ 0 := by have := Nat.two_pow_pos d; exact_mod_cast (show (2 ^ d : Nat) ≠ 0 by omega)
 have h2 : ((2 ^ (6 - d) : Nat) : Rat) ≠ 0 := by have := Nat.two_pow_pos (6 - d); exact_mod_cast (show (2 ^ (6 - d) : Nat) ≠ 0 by omega)
 rw [h64]
 push_cast at *
 grind
theorem cnr_ends {p : List Int} (hp : isPoly p) {d k : Nat} (hd : d ≤ 6) (hk : k < 2 ^ d) :
   ((cnr p d k).getD 0 0).num = at' p (k * 2 ^ (6 - d)) 64 ∧ ((cnr p d k).getD ((cnr p d k).length - 1) 0).num = at' p ((k + 1) * 2 ^ (6 - d)) 64 := by
 have h0 := cnr_hval hp d k 0
 have h1 := cnr_hval hp d k 1
 rw [bval_zero, Nat.mod_eq_of_lt hk, Rat.add_zero] at h0
 rw [bval_one, Nat.mod_eq_of_lt hk] at h1
 rw [h0, h1]
 unfold at'
 rw [dyad hd, dyad hd]
 exact ⟨rfl, by push_cast; rfl⟩
theorem cgs_par {p : List Int} (hp : isPoly p) (hc : plainP p) {d k : Nat} (hd : d ≤ 6) (hk : k < 2 ^ d) :
   cgs p d k % 2 = if (at' p (k * 2 ^ (6 - d)) 64 < 0 ↔ at' p ((k + 1) * 2 ^ (6 - d)) 64 < 0) then 0 else 1 := by
 obtain ⟨e0, e1⟩ := cnr_ends hp hd hk
 have hle : (k + 1) * 2 ^ (6 - d) ≤ 64 := by
   have := Nat.mul_le_mul_right (2 ^ (6 - d)) (show k + 1 ≤ 2 ^ d by omega)
   rwa [← Nat.pow_add, show d + (6 - d) = 6 by omega] at this
 have hle' : k * 2 ^ (6 - d) ≤ (k + 1) * 2 ^ (6 - d) := Nat.mul_le_mul_right _ (by omega)
 have n0 := hc (k * 2 ^ (6 - d)) (by omega)
 have n1 := hc ((k + 1) * 2 ^ (6 - d)) (by omega)
 have h := chg_par (l := cnr p d k) (by rw [cnr_length]; exact hp.1) (fun e => n0 (by rw [← e0, e]; rfl)) (fun e => n1 (by rw [← e1, e]; rfl))
 rw [e0, e1] at h
 exact h
theorem count_par {p : List Int} (hp : isPoly p) (hc : plainP p) : ∀ n d k, d + n = 6 → k < 2 ^ d → rdB p n d k = true → (rdL p n d k).length % 2 = cgs p d k % 2
 | 0, d, k, hd, hk, hb => by
   rw [rdB, Bool.or_eq_true, decide_eq_true_iff, decide_eq_true_iff] at hb
   rw [rdL]
   rcases hb with hb | hb
   · rw [if_pos hb, hb]; try rfl
   · rw [if_neg (by omega), if_pos hb, hb]; try rfl
 | n + 1, d, k, hd, hk, hb => by
   rw [rdB, Bool.or_eq_true, Bool.or_eq_true, Bool.and_eq_true, decide_eq_true_iff, decide_eq_true_iff] at hb
   rw [rdL]
   by_cases h0 : cgs p d k = 0
   · rw [if_pos h0, h0]; try rfl
   by_cases h1 : cgs p d k = 1
   · rw [if_neg h0, if_pos h1, h1]; try rfl
   have hb := (hb.resolve_left h0).resolve_left h1
   have hp2 : 2 ^ (d + 1) = 2 ^ d * 2 := Nat.pow_succ ..
   rw [if_neg h0, if_neg h1, if_pos hb.1, List.length_append, Nat.add_mod, count_par hp hc n _ _ (by omega) (by omega) hb.1, count_par hp hc n _ _ (by omega) (by omega) hb.2]
   rw [cgs_par hp hc (d := d + 1) (k := 2 * k) (by omega) (by omega), cgs_par hp hc (d := d + 1) (k := 2 * k + 1) (by omega) (by omega), cgs_par hp hc (d := d) (k := k) (by omega) hk]
   have e1 : 2 * k * 2 ^ (6 - (d + 1)) = k * 2 ^ (6 - d) := by
     rw [show 6 - d = 6 - (d + 1) + 1 by omega, Nat.pow_succ, Nat.mul_comm 2 k, Nat.mul_assoc, Nat.mul_comm 2]
   have e2 : (2 * k + 1 + 1) * 2 ^ (6 - (d + 1)) = (k + 1) * 2 ^ (6 - d) := by
     rw [show 6 - d = 6 - (d + 1) + 1 by omega, Nat.pow_succ, show 2 * k + 1 + 1 = (k + 1) * 2 by omega, Nat.mul_assoc, Nat.mul_comm 2]
   rw [e1, e2]
   split <;> split <;> split <;> first | omega | (exfalso; omega) | grind
theorem pos_none {p : List Int} (hp : isPoly p) (hc : plainP p) (hq : posP p) : ∀ n d k, d + n = 6 → k < 2 ^ d → rdL p n d k = [] := by
 have hone : ∀ d k, d ≤ 6 → k < 2 ^ d → cgs p d k ≠ 1 := by
   intro d k hd hk h1
   have h := cgs_par hp hc hd hk
   have hle : (k + 1) * 2 ^ (6 - d) ≤ 2 ^ 6 := by
     have := Nat.mul_le_mul_right (2 ^ (6 - d)) (show k + 1 ≤ 2 ^ d by omega)
     rwa [← Nat.pow_add, show d + (6 - d) = 6 by omega] at this
   have hle' : k * 2 ^ (6 - d) ≤ (k + 1) * 2 ^ (6 - d) := Nat.mul_le_mul_right _ (by omega)
   have a0 := pos_dyad hp hq (d := 6) (Nat.le_refl _) (k := k * 2 ^ (6 - d)) (by omega)
   have a1 := pos_dyad hp hq (d := 6) (Nat.le_refl _) (k := (k + 1) * 2 ^ (6 - d)) hle
   rw [show 2 ^ 6 = 64 from rfl] at a0 a1
   rw [h1, if_pos (by omega)] at h
   omega
 intro n
 induction n with
 | zero =>
   intro d k hd hk
   rw [rdL]
   split
   · rfl
   · rw [if_neg (hone d k (by omega) hk)]
 | succ n ih =>
   intro d k hd hk
   have hp2 : 2 ^ (d + 1) = 2 ^ d * 2 := Nat.pow_succ ..
   rw [rdL]
   split
   · rfl
   · rw [if_neg (hone d k (by omega) hk), ih (d + 1) (2 * k) (by omega) (by omega), ih (d + 1) (2 * k + 1) (by omega) (by omega)]
     simp
theorem readL_pos {p : List Int} (hp : isPoly p) (hc : plainP p) (hq : posP p) : readL p = [] := pos_none hp hc hq 6 0 0 rfl (by decide)
theorem readL_par {p : List Int} (hp : isPoly p) (hc : plainP p) (h : readB p = true) : (readL p).length % 2 = cgs p 0 0 % 2 := count_par hp hc 6 0 0 rfl (by decide) h
theorem readL_le (p : List Int) : (readL p).length ≤ cgs p 0 0 := count_le p 6 0 0
end Go.Am.Bern

/- Bern: the corners of the mirrored polynomial. -/
namespace Go.Am.Bern
theorem m1 (a : Int) : whole (mir [a]) = (whole [a]).reverse := by
 simp [whole, mir, mK, mrow, wsum, ch, sg, List.range, List.range.loop, term_cR, cR]
theorem m2 (a b : Int) : whole (mir [a, b]) = (whole [a, b]).reverse := by
 simp [whole, mir, mK, mrow, wsum, ch, sg, List.range, List.range.loop, term_cR, cR]
 grind
theorem m3 (a b c : Int) : whole (mir [a, b, c]) = (whole [a, b, c]).reverse := by
 simp [whole, mir, mK, mrow, wsum, ch, sg, List.range, List.range.loop, term_cR, cR]
 grind
set_option maxHeartbeats 4000000 in
theorem m4 (a b c d : Int) : whole (mir [a, b, c, d]) = (whole [a, b, c, d]).reverse := by
 simp [whole, mir, mK, mrow, wsum, ch, sg, List.range, List.range.loop, term_cR, cR]
 grind
set_option maxHeartbeats 4000000 in
theorem m5 (a b c d e : Int) : whole (mir [a, b, c, d, e]) = (whole [a, b, c, d, e]).reverse := by
 simp [whole, mir, mK, mrow, wsum, ch, sg, List.range, List.range.loop, term_cR, cR]
 grind
set_option maxHeartbeats 4000000 in
theorem m6 (a b c d e f : Int) : whole (mir [a, b, c, d, e, f]) = (whole [a, b, c, d, e, f]).reverse := by
 simp [whole, mir, mK, mrow, wsum, ch, sg, List.range, List.range.loop, term_cR, cR]
 grind
set_option maxHeartbeats 4000000 in
theorem m7 (a b c d e f g : Int) : whole (mir [a, b, c, d, e, f, g]) = (whole [a, b, c, d, e, f, g]).reverse := by
 simp [whole, mir, mK, mrow, wsum, ch, sg, List.range, List.range.loop, term_cR, cR]
 grind
theorem whole_mir : ∀ {p : List Int}, 1 ≤ p.length → p.length ≤ 7 → whole (mir p) = (whole p).reverse
 | [a], _, _ => m1 a
 | [a, b], _, _ => m2 a b
 | [a, b, c], _, _ => m3 a b c
 | [a, b, c, d], _, _ => m4 a b c d
 | [a, b, c, d, e], _, _ => m5 a b c d e
 | [a, b, c, d, e, f], _, _ => m6 a b c d e f
 | [a, b, c, d, e, f, g], _, _ => m7 a b c d e f g
 | [], h, _ => by simp at h
 | _ :: _ :: _ :: _ :: _ :: _ :: _ :: _ :: _, _, h => by simp at h
end Go.Am.Bern

/- Bern: pieces of the mirrored polynomial. -/
namespace Go.Am.Bern
theorem itr_rev (l : List Rat) : ∀ (m i : Nat), i + m < l.length → itr half m (sqn l.reverse) i = itr half m (sqn l) (l.length - 1 - i - m)
 | 0, i, h => by
   show l.reverse.getD i 0 = l.getD (l.length - 1 - i) 0
   rw [List.getD_eq_getElem?_getD, List.getD_eq_getElem?_getD, List.getElem?_reverse (by omega)]
 | m + 1, i, h => by
   have hh : (half : Rat) = 1 / 2 := by decide +kernel
   rw [itr_out, itr_out, av, av, itr_rev l m i (by omega), itr_rev l m (i + 1) (by omega), show l.length - 1 - i - (m + 1) + 1 = l.length - 1 - i - m by omega, show l.length - 1 - (i + 1) - m = l.length - 1 - i - (m + 1) by omega, hh]
   grind
theorem dv_rev (l : List Rat) : dvL half l.reverse = (dvR half l).reverse ∧ dvR half l.reverse = (dvL half l).reverse := by
 have h1 : ∀ l : List Rat, dvL half l.reverse = (dvR half l).reverse := by
   intro l
   apply List.ext_getElem (by simp [dvL_length, dvR_length])
   intro i h h'
   have hl : i < l.length := by simpa [dvL_length] using h
   have a1 : (dvL half l.reverse)[i] = (dvL half l.reverse).getD i 0 := by simp [h]
   have a2 : (dvR half l).reverse[i] = (dvR half l).getD (l.length - 1 - i) 0 := by
     rw [List.getElem_reverse, List.getD_eq_getElem?_getD, List.getElem?_eq_getElem (by rw [dvR_length]; omega)]
     simp [dvR_length]
   rw [a1, a2, dvL, dvR, divL_itr half _ _ i (Nat.le_refl _) (by simpa using hl), divR_itr half _ l [] _ rfl (by simp; omega), if_pos (by omega), itr_rev l i 0 (by omega)]
   congr 1 <;> omega
 refine ⟨h1 l, ?_⟩
 have := h1 l.reverse
 rw [List.reverse_reverse] at this
 rw [this, List.reverse_reverse]
theorem cnr_mir {p : List Int} (hp : isPoly p) : ∀ (d k : Nat), k < 2 ^ d → cnr (mir p) d k = (cnr p d (2 ^ d - 1 - k)).reverse
 | 0, k, _ => by rw [cnr, cnr]; exact whole_mir hp.1 hp.2.1
 | d + 1, k, hk => by
   have hp2 : 2 ^ (d + 1) = 2 * 2 ^ d := by rw [Nat.pow_succ, Nat.mul_comm]
   rw [cnr, cnr, cnr_mir hp d (k / 2) (by omega), show (2 ^ (d + 1) - 1 - k) / 2 = 2 ^ d - 1 - k / 2 by omega]
   by_cases h : k % 2 = 0
   · rw [if_pos h, if_neg (by omega)]; exact (dv_rev _).1
   · rw [if_neg h, if_pos (by omega)]; exact (dv_rev _).2
end Go.Am.Bern

/- Bern: changes of sign, read backwards. -/
namespace Go.Am.Bern
def fz : List Int → Int
 | [] => 0
 | a :: l => if a = 0 then fz l else a
theorem chgS_fz : ∀ (l : List Int) (a : Int), chgS a l = chgS 0 l + stp a (fz l)
 | [], a => by show 0 = 0 + stp a 0; rw [stp_zero]
 | b :: l, a => by
   rw [chgS_cons, chgS_cons 0, fz]
   by_cases hb : b = 0
   · subst hb; rw [stp_zero, nxt_zero, stp_zero, nxt_zero, if_pos rfl, chgS_fz l a]; omega
   · rw [if_neg hb, show nxt a b = b from if_neg hb, show nxt 0 b = b from if_neg hb, show stp 0 b = 0 by simp [stp]]; omega
theorem chgS_snoc : ∀ (l : List Int) (q a : Int), chgS q (l ++ [a]) = chgS q l + stp (if fz l.reverse = 0 then q else fz l.reverse) a
 | [], q, a => by
   rw [List.nil_append, chgS_cons]
   show stp q a + 0 = 0 + stp (if (0 : Int) = 0 then q else fz []) a
   rw [if_pos rfl]; omega
 | b :: l, q, a => by
   rw [List.cons_append, chgS_cons, chgS_cons, chgS_snoc l (nxt q b) a, List.reverse_cons]
   have e : ∀ (m : List Int) (b q : Int), (if fz (m ++ [b]) = 0 then q else fz (m ++ [b])) = if fz m = 0 then nxt q b else fz m := by
     intro m b q
     induction m with
     | nil =>
       show (if (if b = 0 then (0 : Int) else b) = 0 then q else (if b = 0 then (0 : Int) else b)) = if (0 : Int) = 0 then (if b = 0 then q else b) else 0
       by_cases hb : b = 0
       · subst hb; simp
       · simp [hb]
     | cons c m ih =>
       rw [List.cons_append, fz, fz]
       by_cases hc : c = 0
       · rw [if_pos hc, if_pos hc]; exact ih
       · rw [if_neg hc, if_neg hc, if_neg hc, if_neg hc]
   rw [e]; omega
theorem chgS_rev : ∀ l : List Int, chgS 0 l.reverse = chgS 0 l
 | [] => rfl
 | a :: l => by
   rw [List.reverse_cons, chgS_snoc, List.reverse_reverse, chgS_rev l, chgS_cons]
   by_cases ha : a = 0
   · subst ha; rw [stp_zero, stp_zero, nxt_zero]; omega
   · rw [show nxt 0 a = a from if_neg ha, show stp 0 a = 0 by simp [stp], chgS_fz l a]
     have : stp (if fz l = 0 then 0 else fz l) a = stp a (fz l) := by
       by_cases hf : fz l = 0
       · rw [hf, if_pos rfl, stp_zero]; simp [stp]
       · rw [if_neg hf]
         unfold stp
         rw [if_neg ha, if_neg hf]
         split <;> split <;> omega
     omega
theorem chg_rev (l : List Rat) : chg (qs l.reverse) = chg (qs l) := by
 rw [chg_nm, chg_nm, show nm l.reverse = (nm l).reverse from List.map_reverse .., chgS_rev]
end Go.Am.Bern

/- Bern: readings of the mirrored polynomial. -/
namespace Go.Am.Bern
theorem cgs_mir {p : List Int} (hp : isPoly p) {d k : Nat} (hk : k < 2 ^ d) : cgs (mir p) d k = cgs p d (2 ^ d - 1 - k) := by
 unfold cgs qc
 rw [cnr_mir hp d k hk, chg_rev]
theorem rdB_mir {p : List Int} (hp : isPoly p) : ∀ (n d k : Nat), k < 2 ^ d → rdB (mir p) n d k = rdB p n d (2 ^ d - 1 - k)
 | 0, d, k, hk => by rw [rdB, rdB, cgs_mir hp hk]
 | n + 1, d, k, hk => by
   have hp2 : 2 ^ (d + 1) = 2 * 2 ^ d := by rw [Nat.pow_succ, Nat.mul_comm]
   rw [rdB, rdB, cgs_mir hp hk, rdB_mir hp n (d + 1) (2 * k) (by omega), rdB_mir hp n (d + 1) (2 * k + 1) (by omega), show 2 ^ (d + 1) - 1 - 2 * k = 2 * (2 ^ d - 1 - k) + 1 by omega, show 2 ^ (d + 1) - 1 - (2 * k + 1) = 2 * (2 ^ d - 1 - k) by omega, Bool.and_comm]
theorem len_mir {p : List Int} (hp : isPoly p) : ∀ (n d k : Nat), k < 2 ^ d → rdB p n d (2 ^ d - 1 - k) = true → (rdL (mir p) n d k).length = (rdL p n d (2 ^ d - 1 - k)).length
 | 0, d, k, hk, _ => by
   rw [rdL, rdL, cgs_mir hp hk]
   split
   · rfl
   · split <;> rfl
 | n + 1, d, k, hk, hb => by
   have hp2 : 2 ^ (d + 1) = 2 * 2 ^ d := by rw [Nat.pow_succ, Nat.mul_comm]
   have e1 : 2 ^ (d + 1) - 1 - 2 * k = 2 * (2 ^ d - 1 - k) + 1 := by omega
   have e2 : 2 ^ (d + 1) - 1 - (2 * k + 1) = 2 * (2 ^ d - 1 - k) := by omega
   rw [rdL, rdL, cgs_mir hp hk]
   by_cases h0 : cgs p d (2 ^ d - 1 - k) = 0
   · rw [if_pos h0, if_pos h0]
   by_cases h1 : cgs p d (2 ^ d - 1 - k) = 1
   · rw [if_neg h0, if_pos h1, if_neg h0, if_pos h1]; try rfl
   rw [rdB, Bool.or_eq_true, Bool.or_eq_true, Bool.and_eq_true, decide_eq_true_iff, decide_eq_true_iff] at hb
   have hb := (hb.resolve_left h0).resolve_left h1
   rw [if_neg h0, if_neg h1, if_neg h0, if_neg h1, rdB_mir hp n (d + 1) (2 * k) (by omega), e1, if_pos hb.2, if_pos hb.1, List.length_append, List.length_append,
     len_mir hp n (d + 1) (2 * k) (by omega) (by rw [e1]; exact hb.2), len_mir hp n (d + 1) (2 * k + 1) (by omega) (by rw [e2]; exact hb.1), e1, e2]
   omega
theorem readB_mir {p : List Int} (hp : isPoly p) : readB (mir p) = readB p := rdB_mir hp 6 0 0 (by decide)
theorem readL_mir {p : List Int} (hp : isPoly p) (h : readB p = true) : (readL (mir p)).length = (readL p).length := len_mir hp 6 0 0 (by decide) h
end Go.Am.Bern

/- Bern: the mirrored polynomial is plain, positive, as the polynomial is. -/
namespace Go.Am.Bern
theorem getD_rev (l : List Rat) {i : Nat} (h : i < l.length) : l.reverse.getD i 0 = l.getD (l.length - 1 - i) 0 := by
 rw [List.getD_eq_getElem?_getD, List.getD_eq_getElem?_getD, List.getElem?_reverse h]
theorem mir_length (p : List Int) : (mir p).length = p.length := mK_length p _
theorem mir_poly {p : List Int} (hp : isPoly p) (h : coefs (mir p)) : isPoly (mir p) := ⟨by rw [mir_length]; exact hp.1, by rw [mir_length]; exact hp.2.1, h⟩
theorem at_mir {p : List Int} (hp : isPoly p) (hm : isPoly (mir p)) {j : Nat} (hj : j ≤ 64) : at' (mir p) j 64 = at' p (64 - j) 64 := by
 have hl : ∀ k, 1 ≤ (cnr p 6 k).length := fun k => by rw [cnr_length]; exact hp.1
 rcases Nat.lt_or_ge j 64 with h | h
 · have a := (cnr_ends hm (d := 6) (k := j) (Nat.le_refl _) (by omega)).1
   have b := (cnr_ends hp (d := 6) (k := 63 - j) (Nat.le_refl _) (by omega)).2
   rw [cnr_mir hp 6 j (by omega), getD_rev _ (hl _), Nat.sub_zero, show 2 ^ 6 - 1 - j = 63 - j by omega] at a
   rw [a] at b
   simpa [show 63 - j + 1 = 64 - j by omega] using b
 · have : j = 64 := by omega
   subst this
   have a := (cnr_ends hm (d := 6) (k := 63) (Nat.le_refl _) (by omega)).2
   have b := (cnr_ends hp (d := 6) (k := 0) (Nat.le_refl _) (by omega)).1
   have hl0 := hl 0
   rw [cnr_mir hp 6 63 (by omega), List.length_reverse, show 2 ^ 6 - 1 - 63 = 0 by omega, getD_rev _ (by omega), show (cnr p 6 0).length - 1 - ((cnr p 6 0).length - 1) = 0 by omega] at a
   rw [a] at b
   simpa using b
theorem plain_mir {p : List Int} (hp : isPoly p) (hm : isPoly (mir p)) : plainP (mir p) ↔ plainP p := by
 constructor
 · intro h k hk
   have := h (64 - k) (by omega)
   rwa [at_mir hp hm (by omega), show 64 - (64 - k) = k by omega] at this
 · intro h k hk
   rw [at_mir hp hm (by omega)]
   exact h _ (by omega)
theorem posL_rev (l : List Rat) : posL (qs l.reverse) ↔ posL (qs l) := by
 rw [posL_qs, posL_qs]; simp
theorem pos_mir {p : List Int} (hp : isPoly p) : posP (mir p) ↔ posP p := by
 constructor
 · intro h k hk
   have := h (63 - k) (by omega)
   rwa [cnr_mir hp 6 _ (by omega), posL_rev, show 2 ^ 6 - 1 - (63 - k) = k by omega] at this
 · intro h k hk
   rw [cnr_mir hp 6 _ (by omega), posL_rev]
   exact h _ (by omega)
end Go.Am.Bern

/- Bern: the law BernDescartes. -/
namespace Go.Am.Bern
open Go Go.Am Go.Proofs
theorem w13c (p : List Int) (q : PQ) (h : yesP p ∧ q = (0, 0)) : GCall Tryd.prog gl 13 false [.sl I64 p, ofD Q2 q] [] [.sl Q2 (qc p 0 0), .int .i64 0] [] := by
 obtain ⟨h, rfl⟩ := h
 have hz : isPiece ((0 : Int), (0 : Int)) := by unfold isPiece; decide
 have := call13 p (0, 0) h.1
 rwa [show cornersR p (0, 0) = qc p 0 0 by simp [cornersR, h.2, hz], show cornersE p (0, 0) = 0 by simp [cornersE, h.2, hz]] at this
def w13 : Entry Tryd.prog gl := entry2 13 ⟨Tryd.f13, by kernel_rfl, by kernel_rfl, by kernel_rfl⟩ SI Q2 (fun p q => yesP p ∧ q = (0, 0)) false (fun p _ => [.sl Q2 (qc p 0 0), .int .i64 0]) (fun _ _ => []) w13c
theorem w29c (p : List Int) (h : pY p) : GCall Tryd.prog gl 29 true [.sl I64 p] [] [ofD Q2 (lowQ p), .ff, .int .i64 0] [] := by
 have := y29c p h.1
 rw [pos_low h.1.2 h.2] at this; exact this.lit
def w29 : Entry Tryd.prog gl := entry1 29 ⟨Tryd.f29, by kernel_rfl, by kernel_rfl, by kernel_rfl⟩ SI pY true (fun p => [ofD Q2 (lowQ p), .ff, .int .i64 0]) (fun _ => []) w29c
theorem w32c (p : List Int) (h : yesP p ∧ coefs (mir p)) : GCall Tryd.prog gl 32 false [.sl I64 p] [] [.sl I64 (mir p), .int .i64 0] [] := by
 have := call32 p h.1.1
 rwa [show mirR p = mir p by simp [mirR, smallR, h.1.2, h.2], show mirE p = 0 by simp [mirE, smallE, h.1.2, h.2]] at this
def w32 : Entry Tryd.prog gl := entry1 32 ⟨Tryd.f32, by kernel_rfl, by kernel_rfl, by kernel_rfl⟩ SI (fun p => yesP p ∧ coefs (mir p)) false (fun p => [.sl I64 (mir p), .int .i64 0]) (fun _ => []) w32c
theorem z32c (p : List Int) (h : yesP p ∧ ¬ coefs (mir p)) : GCall Tryd.prog gl 32 false [.sl I64 p] [] [.sl I64 [], .int .i64 8] [] := by
 have := call32 p h.1.1
 rwa [show mirR p = [] by simp [mirR, smallR, h.1.2, h.2], show mirE p = 8 by simp [mirE, smallE, h.1.2, h.2]] at this
def z32 : Entry Tryd.prog gl := entry1 32 ⟨Tryd.f32, by kernel_rfl, by kernel_rfl, by kernel_rfl⟩ SI (fun p => yesP p ∧ ¬ coefs (mir p)) false (fun _ => [.sl I64 [], .int .i64 8]) (fun _ => []) z32c
def pD (p : List Int) : Prop := yesP p ∧ ¬ (plainP p ∧ readB p = true)
theorem pD_none {p : List Int} (h : pD p) : rootsP p = [] := by
 have hn : ¬ rootsB p := fun hc => h.2 ⟨hc.2.1, by rw [← cover_read]; exact hc.2.2⟩
 rw [rootsP, if_neg hn]
theorem pD_err {p : List Int} (h : pD p) : ¬ rootsE p = 0 := by
 unfold rootsE
 rw [if_pos h.1.2, cover_read]
 by_cases hc : plainP p
 · rw [if_pos hc, if_neg fun hr => h.2 ⟨hc, hr⟩]; decide
 · rw [if_neg hc]; decide
theorem d20c (p : List Int) (h : pD p) : GCall Tryd.prog gl 20 false [.sl I64 p] [] [.sl Q2 [], .int .i64 (rootsE p)] [] := by
 have := call20 p h.1.1
 rwa [pD_none h] at this
def d20 : Entry Tryd.prog gl := entry1 20 ⟨Tryd.f20, by kernel_rfl, by kernel_rfl, by kernel_rfl⟩ SI pD false (fun p => [.sl Q2 [], .int .i64 (rootsE p)]) (fun _ => []) d20c
theorem d21c (p : List Int) (h : pD p) : GCall Tryd.prog gl 21 false [.sl I64 p] [] [.int .i64 0, .int .i64 (rootsE p)] [] := by
 have := call21 p h.1.1
 rwa [show (rootsP p).length = 0 by rw [pD_none h]; rfl] at this
def d21 : Entry Tryd.prog gl := entry1 21 ⟨Tryd.f21, by kernel_rfl, by kernel_rfl, by kernel_rfl⟩ SI pD false (fun p => [.int .i64 0, .int .i64 (rootsE p)]) (fun _ => []) d21c
theorem pD_mir {p : List Int} (h : pD p) (hm : coefs (mir p)) : pD (mir p) :=
 ⟨⟨by rw [mir_length]; exact h.1.1, mir_poly h.1.2 hm⟩, fun hc => h.2 ⟨(plain_mir h.1.2 (mir_poly h.1.2 hm)).mp hc.1, by rw [← readB_mir h.1.2]; exact hc.2⟩⟩
theorem err_mir {p : List Int} (hp : isPoly p) (hm : coefs (mir p)) : rootsE (mir p) = rootsE p := by
 unfold rootsE
 have h1 := plain_mir hp (mir_poly hp hm)
 rw [if_pos hp, if_pos (mir_poly hp hm), cover_read, cover_read, readB_mir hp]
 by_cases hc : plainP p
 · rw [if_pos hc, if_pos (h1.mpr hc)]
 · rw [if_neg hc, if_neg fun h => hc (h1.mp h)]
theorem pC_mir {p : List Int} (h : pC p) (hm : coefs (mir p)) : pC (mir p) :=
 ⟨⟨by rw [mir_length]; exact h.1.1, mir_poly h.1.2 hm⟩, (plain_mir h.1.2 (mir_poly h.1.2 hm)).mpr h.2.1, by rw [readB_mir h.1.2]; exact h.2.2⟩
theorem pY_mir {p : List Int} (h : pY p) (hm : coefs (mir p)) : pY (mir p) :=
 ⟨⟨by rw [mir_length]; exact h.1.1, mir_poly h.1.2 hm⟩, (pos_mir h.1.2).mpr h.2⟩
theorem pN_mir {p : List Int} (h : pN p) (hm : coefs (mir p)) : pN (mir p) :=
 ⟨⟨by rw [mir_length]; exact h.1.1, mir_poly h.1.2 hm⟩, fun hc => h.2 ((pos_mir h.1.2).mp hc)⟩
noncomputable abbrev E6DYW : EL := [e12v, e18, w13, e33, d21, d20, y26, w29, w32]
noncomputable abbrev E6DYZ : EL := [e12v, e18, w13, e33, d21, d20, y26, w29, z32]
noncomputable abbrev E6DNW : EL := [e12v, e18, w13, e33, d21, d20, n26', y29, w32]
noncomputable abbrev E6DNZ : EL := [e12v, e18, w13, e33, d21, d20, n26', y29, z32]
noncomputable abbrev E6CYW : EL := [e12v, e18, w13, e33, c21, c20, y26, w29, w32]
noncomputable abbrev E6CYZ : EL := [e12v, e18, w13, e33, c21, c20, y26, w29, z32]
noncomputable abbrev E6CNW : EL := [e12v, e18, w13, e33, c21, c20, n26', y29, w32]
noncomputable abbrev E6CNZ : EL := [e12v, e18, w13, e33, c21, c20, n26', y29, z32]
theorem chgS_len : ∀ (l : List Int) (a : Int), chgS a l ≤ l.length
 | [], _ => Nat.le_refl _
 | b :: l, a => by
   rw [chgS_cons, List.length_cons]
   have := chgS_len l (nxt a b)
   have : stp a b ≤ 1 := by unfold stp; split <;> (try split) <;> omega
   omega
theorem cgs_lt {p : List Int} (hp : isPoly p) : cgs p 0 0 < 1000000 := by
 unfold cgs qc
 rw [chg_nm]
 have := chgS_len (nm (cnr p 0 0)) 0
 have e : (nm (cnr p 0 0)).length = p.length := by simp [nm, cnr_length]
 have := hp.2.1
 omega
set_option maxHeartbeats 2000000 in
theorem c6CYW (l : List Int) (h : l.length < 1000000000000000) (hC : pC (tmL l)) (hY : pY (tmL l)) (hm : coefs (mir (tmL l))) : GCall Tryd.prog gl 6 true [.sl I64 l] [] [.tt] [] := by
 have hp : isPoly (tmL l) := tmL_poly l
 have hy : yesP (tmL l) := ⟨by have := hp.2.1; omega, hp⟩
 have hk := qc_length (tmL l) 0 0
 have hk1 : (qc (tmL l) 0 0).length + 1 ≤ 1000000 := by rw [hk]; have := hp.2.1; omega
 have h1 : l.length + 1 ≤ 1000000000000000 := h
 have hle := readL_le (tmL l)
 have hpa := readL_par hp hC.2.1 hC.2.2
 have hml := readL_mir hp hC.2.2
 have hcg : chg (qc (tmL l) 0 0) = cgs (tmL l) 0 0 := rfl
 have hlt : cgs (tmL l) 0 0 < 1000000 := cgs_lt hp
 have ht : ((chg (qc (tmL l) 0 0) : Int) - ((readL (tmL l)).length : Int)).tmod 2 = 0 := by
   rw [Int.tmod_eq_emod_of_nonneg (by omega)]; omega
 have hz := readL_pos hp hC.2.1 hY.2
 have hzl : (readL (tmL l)).length = 0 := by rw [hz]; try rfl
 have hC' := hC
 have hY' := hY
 unfold pC at hC'
 unfold pY at hY'
 have mC := pC_mir hC hm
 have mY := pY_mir hY hm
 unfold pC at mC
 unfold pY at mY
 refine gcall_of (X := (X E6CYW)) ((X_ok E6CYW)) (f := 6) (fn := Tryd.f6) (c := bodyOf Tryd.f6) (by kernel_rfl) (by kernel_rfl) (view := false) (rvs := [.tmp 2]) (by kernel_rfl) (H := fun _ => none) 400 (by kernel_rfl) ?_
 refine of_eq (q := True ∧ True ∧ (l.length + 1 ≤ 1000000000000000 ∧ True) ∧ True ∧ True ∧ ((yesP (tmL l) ∧ plainP (tmL l) ∧ readB (tmL l) = true) ∧ True) ∧ True ∧ True ∧ True ∧ True ∧ True ∧ True ∧ True ∧ ((yesP (tmL l) ∧ ((0 : Int), (0 : Int)) = ((0 : Int), (0 : Int))) ∧ True) ∧ True ∧ True ∧ True ∧ True ∧ True ∧ True ∧ ((yesP (tmL l) ∧ posP (tmL l)) ∧ True) ∧ True ∧ True ∧ True ∧ True ∧ True ∧ True ∧ True ∧ True ∧ ((yesP (tmL l) ∧ posP (tmL l)) ∧ True) ∧ True ∧ True ∧ True ∧ True ∧ True ∧ True ∧ True ∧ True ∧ True ∧ ((yesP (tmL l) ∧ coefs (mir (tmL l))) ∧ True) ∧ True ∧ True ∧ True ∧ True ∧ True ∧ True ∧ True ∧ True ∧ (¬(0 : Int) = 0 → True ∧ True ∧ True ∧ True ∧ True ∧ True ∧ True ∧ True ∧ True ∧ (false = true ∧ True) ∧ True) ∧ (¬¬(0 : Int) = 0 → True ∧ True ∧ True ∧ True ∧ (¬(0 : Int) = 0 → True ∧ True ∧ True ∧ True ∧ True ∧ True ∧ True ∧ (false = true ∧ True) ∧ True) ∧ (¬¬(0 : Int) = 0 → True ∧ True ∧ True ∧ True ∧ (¬(0 : Int) = 0 → True ∧ True ∧ True ∧ True ∧ True ∧ (false = true ∧ True) ∧ True) ∧ (¬¬(0 : Int) = 0 → True ∧ True ∧ True ∧ True ∧ True ∧ True ∧ True ∧ True ∧ True ∧ True ∧ True ∧ True ∧ (¬(↑(qc (tmL l) (0 : Nat) (0 : Nat)).length : Int) = (↑(tmL l).length : Int) → True ∧ True ∧ (false = true ∧ True) ∧ True) ∧ (¬¬(↑(qc (tmL l) (0 : Nat) (0 : Nat)).length : Int) = (↑(tmL l).length : Int) → True ∧ True ∧ ((0 : Int) = 0 → True ∧ ((qc (tmL l) (0 : Nat) (0 : Nat)).length + 1 ≤ 1000000 ∧ True) ∧ True ∧ True ∧ ((yesP (tmL l) ∧ plainP (tmL l) ∧ readB (tmL l) = true) ∧ True) ∧ True ∧ True ∧ True ∧ True ∧ True ∧ True ∧ True ∧ True ∧ (¬(0 : Int) = 0 → True ∧ True ∧ True ∧ True ∧ True ∧ True ∧ True ∧ True ∧ True ∧ (false = true ∧ True) ∧ True) ∧ (¬¬(0 : Int) = 0 → True ∧ True ∧ True ∧ True ∧ True ∧ True ∧ (¬(↑(readL (tmL l)).length : Int) = (↑(readL (tmL l)).length : Int) → True ∧ True ∧ True ∧ True ∧ True ∧ True ∧ True ∧ (false = true ∧ True) ∧ True) ∧ (¬¬(↑(readL (tmL l)).length : Int) = (↑(readL (tmL l)).length : Int) → True ∧ True ∧ True ∧ True ∧ True ∧ ((↑(chg (qc (tmL l) (0 : Nat) (0 : Nat))) : Int) < (↑(readL (tmL l)).length : Int) → True ∧ True ∧ True ∧ True ∧ True ∧ (false = true ∧ True) ∧ True) ∧ (¬(↑(chg (qc (tmL l) (0 : Nat) (0 : Nat))) : Int) < (↑(readL (tmL l)).length : Int) → True ∧ True ∧ inR .i64 ((↑(chg (qc (tmL l) (0 : Nat) (0 : Nat))) : Int) - (↑(readL (tmL l)).length : Int)) ∧ ¬(2 : Int) = 0 ∧ True ∧ True ∧ True ∧ (¬((↑(chg (qc (tmL l) (0 : Nat) (0 : Nat))) : Int) - (↑(readL (tmL l)).length : Int)).tmod (2 : Int) = 0 → True ∧ True ∧ True ∧ (false = true ∧ True) ∧ True) ∧ (¬¬((↑(chg (qc (tmL l) (0 : Nat) (0 : Nat))) : Int) - (↑(readL (tmL l)).length : Int)).tmod (2 : Int) = 0 → True ∧ True ∧ True ∧ True ∧ True ∧ True ∧ (¬(↑(readL (tmL l)).length : Int) = 0 → True ∧ True ∧ (false = true ∧ True) ∧ True) ∧ (¬¬(↑(readL (tmL l)).length : Int) = 0 → True ∧ True ∧ (¬(0 : Int) = 0 → True ∧ True ∧ True ∧ ((0 : Int) = 8 → (True ∧ True) ∧ True ∧ True ∧ True ∧ (true = true ∧ True) ∧ True) ∧ (¬(0 : Int) = 8 → True ∧ True ∧ True ∧ (false = true ∧ True) ∧ True)) ∧ (¬¬(0 : Int) = 0 → True ∧ ((yesP (mir (tmL l)) ∧ plainP (mir (tmL l)) ∧ readB (mir (tmL l)) = true) ∧ True) ∧ True ∧ True ∧ True ∧ True ∧ True ∧ True ∧ ((yesP (mir (tmL l)) ∧ posP (mir (tmL l))) ∧ True) ∧ True ∧ True ∧ True ∧ True ∧ True ∧ True ∧ True ∧ True ∧ True ∧ True ∧ True ∧ ((0 : Int) = 0 → True ∧ True ∧ True ∧ True ∧ True ∧ ((↑(readL (mir (tmL l))).length : Int) = (↑(readL (tmL l)).length : Int) → True ∧ True ∧ True ∧ True ∧ ((0 : Int) = 0 → True ∧ True ∧ True ∧ True ∧ True ∧ (true = true → (True ∧ True) ∧ True ∧ True ∧ True ∧ (true = true ∧ True) ∧ True) ∧ (true = false → True ∧ True ∧ True ∧ (false = true ∧ True) ∧ True)) ∧ (¬(0 : Int) = 0 → True ∧ True ∧ True ∧ True ∧ True ∧ (false = true ∧ True) ∧ True)) ∧ (¬(↑(readL (mir (tmL l))).length : Int) = (↑(readL (tmL l)).length : Int) → True ∧ True ∧ True ∧ True ∧ True ∧ True ∧ True ∧ (false = true ∧ True) ∧ True)) ∧ (¬(0 : Int) = 0 → True ∧ True ∧ True ∧ True ∧ True ∧ True ∧ True ∧ True ∧ True ∧ (false = true ∧ True) ∧ True)))))))) ∧ (¬(0 : Int) = 0 → True ∧ True ∧ (¬(0 : Int) = 0 → True ∧ True ∧ True ∧ ((0 : Int) = 8 → (True ∧ True) ∧ True ∧ True ∧ True ∧ (true = true ∧ True) ∧ True) ∧ (¬(0 : Int) = 8 → True ∧ True ∧ True ∧ (false = true ∧ True) ∧ True)) ∧ (¬¬(0 : Int) = 0 → True ∧ ((yesP (mir (tmL l)) ∧ plainP (mir (tmL l)) ∧ readB (mir (tmL l)) = true) ∧ True) ∧ True ∧ True ∧ True ∧ True ∧ True ∧ True ∧ ((yesP (mir (tmL l)) ∧ posP (mir (tmL l))) ∧ True) ∧ True ∧ True ∧ True ∧ True ∧ True ∧ True ∧ True ∧ True ∧ True ∧ True ∧ True ∧ ((0 : Int) = 0 → True ∧ True ∧ True ∧ True ∧ True ∧ ((↑(readL (mir (tmL l))).length : Int) = (↑(readL (tmL l)).length : Int) → True ∧ True ∧ True ∧ True ∧ ((0 : Int) = 0 → True ∧ True ∧ True ∧ True ∧ True ∧ (true = true → (True ∧ True) ∧ True ∧ True ∧ True ∧ (true = true ∧ True) ∧ True) ∧ (true = false → True ∧ True ∧ True ∧ (false = true ∧ True) ∧ True)) ∧ (¬(0 : Int) = 0 → True ∧ True ∧ True ∧ True ∧ True ∧ (false = true ∧ True) ∧ True)) ∧ (¬(↑(readL (mir (tmL l))).length : Int) = (↑(readL (tmL l)).length : Int) → True ∧ True ∧ True ∧ True ∧ True ∧ True ∧ True ∧ (false = true ∧ True) ∧ True)) ∧ (¬(0 : Int) = 0 → True ∧ True ∧ True ∧ True ∧ True ∧ True ∧ True ∧ True ∧ True ∧ (false = true ∧ True) ∧ True)))))))) (by kernel_rfl) ?_
 simp only [zz, not_true_eq_false, not_false_eq_true, true_imp_iff, false_imp_iff, implies_true, Bool.false_eq_true, Bool.true_eq_false, reduceCtorEq, imp_false]
 repeat' first | assumption | omega | exact ht | (simp only [inR]; omega) | exact fun h => h | exact hq | (exact absurd rfl ‹_›) | intro _ | refine And.intro ?_ ?_
set_option maxHeartbeats 2000000 in
theorem c6CYZ (l : List Int) (h : l.length < 1000000000000000) (hC : pC (tmL l)) (hY : pY (tmL l)) (hm : ¬ coefs (mir (tmL l))) : GCall Tryd.prog gl 6 true [.sl I64 l] [] [.tt] [] := by
 have hp : isPoly (tmL l) := tmL_poly l
 have hy : yesP (tmL l) := ⟨by have := hp.2.1; omega, hp⟩
 have hk := qc_length (tmL l) 0 0
 have hk1 : (qc (tmL l) 0 0).length + 1 ≤ 1000000 := by rw [hk]; have := hp.2.1; omega
 have h1 : l.length + 1 ≤ 1000000000000000 := h
 have hle := readL_le (tmL l)
 have hpa := readL_par hp hC.2.1 hC.2.2
 have hml := readL_mir hp hC.2.2
 have hcg : chg (qc (tmL l) 0 0) = cgs (tmL l) 0 0 := rfl
 have hlt : cgs (tmL l) 0 0 < 1000000 := cgs_lt hp
 have ht : ((chg (qc (tmL l) 0 0) : Int) - ((readL (tmL l)).length : Int)).tmod 2 = 0 := by
   rw [Int.tmod_eq_emod_of_nonneg (by omega)]; omega
 have hz := readL_pos hp hC.2.1 hY.2
 have hzl : (readL (tmL l)).length = 0 := by rw [hz]; try rfl
 have hC' := hC
 have hY' := hY
 unfold pC at hC'
 unfold pY at hY'
 refine gcall_of (X := (X E6CYZ)) ((X_ok E6CYZ)) (f := 6) (fn := Tryd.f6) (c := bodyOf Tryd.f6) (by kernel_rfl) (by kernel_rfl) (view := false) (rvs := [.tmp 2]) (by kernel_rfl) (H := fun _ => none) 400 (by kernel_rfl) ?_
 refine of_eq (q := True ∧ True ∧ (l.length + 1 ≤ 1000000000000000 ∧ True) ∧ True ∧ True ∧ ((yesP (tmL l) ∧ plainP (tmL l) ∧ readB (tmL l) = true) ∧ True) ∧ True ∧ True ∧ True ∧ True ∧ True ∧ True ∧ True ∧ ((yesP (tmL l) ∧ ((0 : Int), (0 : Int)) = ((0 : Int), (0 : Int))) ∧ True) ∧ True ∧ True ∧ True ∧ True ∧ True ∧ True ∧ ((yesP (tmL l) ∧ posP (tmL l)) ∧ True) ∧ True ∧ True ∧ True ∧ True ∧ True ∧ True ∧ True ∧ True ∧ ((yesP (tmL l) ∧ posP (tmL l)) ∧ True) ∧ True ∧ True ∧ True ∧ True ∧ True ∧ True ∧ True ∧ True ∧ True ∧ ((yesP (tmL l) ∧ ¬coefs (mir (tmL l))) ∧ True) ∧ True ∧ True ∧ True ∧ True ∧ True ∧ True ∧ True ∧ True ∧ (¬(0 : Int) = 0 → True ∧ True ∧ True ∧ True ∧ True ∧ True ∧ True ∧ True ∧ True ∧ (false = true ∧ True) ∧ True) ∧ (¬¬(0 : Int) = 0 → True ∧ True ∧ True ∧ True ∧ (¬(0 : Int) = 0 → True ∧ True ∧ True ∧ True ∧ True ∧ True ∧ True ∧ (false = true ∧ True) ∧ True) ∧ (¬¬(0 : Int) = 0 → True ∧ True ∧ True ∧ True ∧ (¬(0 : Int) = 0 → True ∧ True ∧ True ∧ True ∧ True ∧ (false = true ∧ True) ∧ True) ∧ (¬¬(0 : Int) = 0 → True ∧ True ∧ True ∧ True ∧ True ∧ True ∧ True ∧ True ∧ True ∧ True ∧ True ∧ True ∧ (¬(↑(qc (tmL l) (0 : Nat) (0 : Nat)).length : Int) = (↑(tmL l).length : Int) → True ∧ True ∧ (false = true ∧ True) ∧ True) ∧ (¬¬(↑(qc (tmL l) (0 : Nat) (0 : Nat)).length : Int) = (↑(tmL l).length : Int) → True ∧ True ∧ ((0 : Int) = 0 → True ∧ ((qc (tmL l) (0 : Nat) (0 : Nat)).length + 1 ≤ 1000000 ∧ True) ∧ True ∧ True ∧ ((yesP (tmL l) ∧ plainP (tmL l) ∧ readB (tmL l) = true) ∧ True) ∧ True ∧ True ∧ True ∧ True ∧ True ∧ True ∧ True ∧ True ∧ (¬(0 : Int) = 0 → True ∧ True ∧ True ∧ True ∧ True ∧ True ∧ True ∧ True ∧ True ∧ (false = true ∧ True) ∧ True) ∧ (¬¬(0 : Int) = 0 → True ∧ True ∧ True ∧ True ∧ True ∧ True ∧ (¬(↑(readL (tmL l)).length : Int) = (↑(readL (tmL l)).length : Int) → True ∧ True ∧ True ∧ True ∧ True ∧ True ∧ True ∧ (false = true ∧ True) ∧ True) ∧ (¬¬(↑(readL (tmL l)).length : Int) = (↑(readL (tmL l)).length : Int) → True ∧ True ∧ True ∧ True ∧ True ∧ ((↑(chg (qc (tmL l) (0 : Nat) (0 : Nat))) : Int) < (↑(readL (tmL l)).length : Int) → True ∧ True ∧ True ∧ True ∧ True ∧ (false = true ∧ True) ∧ True) ∧ (¬(↑(chg (qc (tmL l) (0 : Nat) (0 : Nat))) : Int) < (↑(readL (tmL l)).length : Int) → True ∧ True ∧ inR .i64 ((↑(chg (qc (tmL l) (0 : Nat) (0 : Nat))) : Int) - (↑(readL (tmL l)).length : Int)) ∧ ¬(2 : Int) = 0 ∧ True ∧ True ∧ True ∧ (¬((↑(chg (qc (tmL l) (0 : Nat) (0 : Nat))) : Int) - (↑(readL (tmL l)).length : Int)).tmod (2 : Int) = 0 → True ∧ True ∧ True ∧ (false = true ∧ True) ∧ True) ∧ (¬¬((↑(chg (qc (tmL l) (0 : Nat) (0 : Nat))) : Int) - (↑(readL (tmL l)).length : Int)).tmod (2 : Int) = 0 → True ∧ True ∧ True ∧ True ∧ True ∧ True ∧ (¬(↑(readL (tmL l)).length : Int) = 0 → True ∧ True ∧ (false = true ∧ True) ∧ True) ∧ (¬¬(↑(readL (tmL l)).length : Int) = 0 → True ∧ True ∧ (¬(8 : Int) = 0 → True ∧ True ∧ True ∧ ((8 : Int) = 8 → (True ∧ True) ∧ True ∧ True ∧ True ∧ (true = true ∧ True) ∧ True) ∧ (¬(8 : Int) = 8 → True ∧ True ∧ True ∧ (false = true ∧ True) ∧ True)) ∧ (¬¬(8 : Int) = 0 → True ∧ ((yesP [] ∧ plainP [] ∧ true = true) ∧ True) ∧ True ∧ True ∧ True ∧ True ∧ True ∧ True ∧ ((yesP [] ∧ posP []) ∧ True) ∧ True ∧ True ∧ True ∧ True ∧ True ∧ True ∧ True ∧ True ∧ True ∧ True ∧ True ∧ ((0 : Int) = 0 → True ∧ True ∧ True ∧ True ∧ True ∧ ((↑(readL []).length : Int) = (↑(readL (tmL l)).length : Int) → True ∧ True ∧ True ∧ True ∧ ((0 : Int) = 0 → True ∧ True ∧ True ∧ True ∧ True ∧ (true = true → (True ∧ True) ∧ True ∧ True ∧ True ∧ (true = true ∧ True) ∧ True) ∧ (true = false → True ∧ True ∧ True ∧ (false = true ∧ True) ∧ True)) ∧ (¬(0 : Int) = 0 → True ∧ True ∧ True ∧ True ∧ True ∧ (false = true ∧ True) ∧ True)) ∧ (¬(↑(readL []).length : Int) = (↑(readL (tmL l)).length : Int) → True ∧ True ∧ True ∧ True ∧ True ∧ True ∧ True ∧ (false = true ∧ True) ∧ True)) ∧ (¬(0 : Int) = 0 → True ∧ True ∧ True ∧ True ∧ True ∧ True ∧ True ∧ True ∧ True ∧ (false = true ∧ True) ∧ True)))))))) ∧ (¬(0 : Int) = 0 → True ∧ True ∧ (¬(8 : Int) = 0 → True ∧ True ∧ True ∧ ((8 : Int) = 8 → (True ∧ True) ∧ True ∧ True ∧ True ∧ (true = true ∧ True) ∧ True) ∧ (¬(8 : Int) = 8 → True ∧ True ∧ True ∧ (false = true ∧ True) ∧ True)) ∧ (¬¬(8 : Int) = 0 → True ∧ ((yesP [] ∧ plainP [] ∧ true = true) ∧ True) ∧ True ∧ True ∧ True ∧ True ∧ True ∧ True ∧ ((yesP [] ∧ posP []) ∧ True) ∧ True ∧ True ∧ True ∧ True ∧ True ∧ True ∧ True ∧ True ∧ True ∧ True ∧ True ∧ ((0 : Int) = 0 → True ∧ True ∧ True ∧ True ∧ True ∧ ((↑(readL []).length : Int) = (↑(readL (tmL l)).length : Int) → True ∧ True ∧ True ∧ True ∧ ((0 : Int) = 0 → True ∧ True ∧ True ∧ True ∧ True ∧ (true = true → (True ∧ True) ∧ True ∧ True ∧ True ∧ (true = true ∧ True) ∧ True) ∧ (true = false → True ∧ True ∧ True ∧ (false = true ∧ True) ∧ True)) ∧ (¬(0 : Int) = 0 → True ∧ True ∧ True ∧ True ∧ True ∧ (false = true ∧ True) ∧ True)) ∧ (¬(↑(readL []).length : Int) = (↑(readL (tmL l)).length : Int) → True ∧ True ∧ True ∧ True ∧ True ∧ True ∧ True ∧ (false = true ∧ True) ∧ True)) ∧ (¬(0 : Int) = 0 → True ∧ True ∧ True ∧ True ∧ True ∧ True ∧ True ∧ True ∧ True ∧ (false = true ∧ True) ∧ True)))))))) (by kernel_rfl) ?_
 simp only [zz, not_true_eq_false, not_false_eq_true, true_imp_iff, false_imp_iff, implies_true, Bool.false_eq_true, Bool.true_eq_false, reduceCtorEq, imp_false]
 repeat' first | assumption | omega | exact ht | (simp only [inR]; omega) | exact fun h => h | exact hq | (exact absurd rfl ‹_›) | intro _ | refine And.intro ?_ ?_
set_option maxHeartbeats 2000000 in
theorem c6CNW (l : List Int) (h : l.length < 1000000000000000) (hC : pC (tmL l)) (hN : pN (tmL l)) (hm : coefs (mir (tmL l))) : GCall Tryd.prog gl 6 true [.sl I64 l] [] [.tt] [] := by
 have hp : isPoly (tmL l) := tmL_poly l
 have hy : yesP (tmL l) := ⟨by have := hp.2.1; omega, hp⟩
 have hk := qc_length (tmL l) 0 0
 have hk1 : (qc (tmL l) 0 0).length + 1 ≤ 1000000 := by rw [hk]; have := hp.2.1; omega
 have h1 : l.length + 1 ≤ 1000000000000000 := h
 have hle := readL_le (tmL l)
 have hpa := readL_par hp hC.2.1 hC.2.2
 have hml := readL_mir hp hC.2.2
 have hcg : chg (qc (tmL l) 0 0) = cgs (tmL l) 0 0 := rfl
 have hlt : cgs (tmL l) 0 0 < 1000000 := cgs_lt hp
 have ht : ((chg (qc (tmL l) 0 0) : Int) - ((readL (tmL l)).length : Int)).tmod 2 = 0 := by
   rw [Int.tmod_eq_emod_of_nonneg (by omega)]; omega
 have hC' := hC
 have hN' := hN
 unfold pC at hC'
 unfold pN at hN'
 have mC := pC_mir hC hm
 have mN := pN_mir hN hm
 unfold pC at mC
 unfold pN at mN
 refine gcall_of (X := (X E6CNW)) ((X_ok E6CNW)) (f := 6) (fn := Tryd.f6) (c := bodyOf Tryd.f6) (by kernel_rfl) (by kernel_rfl) (view := false) (rvs := [.tmp 2]) (by kernel_rfl) (H := fun _ => none) 400 (by kernel_rfl) ?_
 refine of_eq (q := True ∧ True ∧ (l.length + 1 ≤ 1000000000000000 ∧ True) ∧ True ∧ True ∧ ((yesP (tmL l) ∧ plainP (tmL l) ∧ readB (tmL l) = true) ∧ True) ∧ True ∧ True ∧ True ∧ True ∧ True ∧ True ∧ True ∧ ((yesP (tmL l) ∧ ((0 : Int), (0 : Int)) = ((0 : Int), (0 : Int))) ∧ True) ∧ True ∧ True ∧ True ∧ True ∧ True ∧ True ∧ ((yesP (tmL l) ∧ ¬posP (tmL l)) ∧ True) ∧ True ∧ True ∧ True ∧ True ∧ True ∧ True ∧ True ∧ True ∧ (((tmL l).length < 1000000 ∧ isPoly (tmL l)) ∧ True) ∧ True ∧ True ∧ True ∧ True ∧ True ∧ True ∧ True ∧ True ∧ True ∧ ((yesP (tmL l) ∧ coefs (mir (tmL l))) ∧ True) ∧ True ∧ True ∧ True ∧ True ∧ True ∧ True ∧ True ∧ True ∧ (¬(0 : Int) = 0 → True ∧ True ∧ True ∧ True ∧ True ∧ True ∧ True ∧ True ∧ True ∧ (false = true ∧ True) ∧ True) ∧ (¬¬(0 : Int) = 0 → True ∧ True ∧ True ∧ True ∧ (¬(0 : Int) = 0 → True ∧ True ∧ True ∧ True ∧ True ∧ True ∧ True ∧ (false = true ∧ True) ∧ True) ∧ (¬¬(0 : Int) = 0 → True ∧ True ∧ True ∧ True ∧ (¬(0 : Int) = 0 → True ∧ True ∧ True ∧ True ∧ True ∧ (false = true ∧ True) ∧ True) ∧ (¬¬(0 : Int) = 0 → True ∧ True ∧ True ∧ True ∧ True ∧ True ∧ True ∧ True ∧ True ∧ True ∧ True ∧ (¬(↑(qc (tmL l) (0 : Nat) (0 : Nat)).length : Int) = (↑(tmL l).length : Int) → True ∧ True ∧ (false = true ∧ True) ∧ True) ∧ (¬¬(↑(qc (tmL l) (0 : Nat) (0 : Nat)).length : Int) = (↑(tmL l).length : Int) → True ∧ True ∧ ((0 : Int) = 0 → True ∧ ((qc (tmL l) (0 : Nat) (0 : Nat)).length + 1 ≤ 1000000 ∧ True) ∧ True ∧ True ∧ ((yesP (tmL l) ∧ plainP (tmL l) ∧ readB (tmL l) = true) ∧ True) ∧ True ∧ True ∧ True ∧ True ∧ True ∧ True ∧ True ∧ True ∧ (¬(0 : Int) = 0 → True ∧ True ∧ True ∧ True ∧ True ∧ True ∧ True ∧ True ∧ True ∧ (false = true ∧ True) ∧ True) ∧ (¬¬(0 : Int) = 0 → True ∧ True ∧ True ∧ True ∧ True ∧ True ∧ (¬(↑(readL (tmL l)).length : Int) = (↑(readL (tmL l)).length : Int) → True ∧ True ∧ True ∧ True ∧ True ∧ True ∧ True ∧ (false = true ∧ True) ∧ True) ∧ (¬¬(↑(readL (tmL l)).length : Int) = (↑(readL (tmL l)).length : Int) → True ∧ True ∧ True ∧ True ∧ True ∧ ((↑(chg (qc (tmL l) (0 : Nat) (0 : Nat))) : Int) < (↑(readL (tmL l)).length : Int) → True ∧ True ∧ True ∧ True ∧ True ∧ (false = true ∧ True) ∧ True) ∧ (¬(↑(chg (qc (tmL l) (0 : Nat) (0 : Nat))) : Int) < (↑(readL (tmL l)).length : Int) → True ∧ True ∧ inR .i64 ((↑(chg (qc (tmL l) (0 : Nat) (0 : Nat))) : Int) - (↑(readL (tmL l)).length : Int)) ∧ ¬(2 : Int) = 0 ∧ True ∧ True ∧ True ∧ (¬((↑(chg (qc (tmL l) (0 : Nat) (0 : Nat))) : Int) - (↑(readL (tmL l)).length : Int)).tmod (2 : Int) = 0 → True ∧ True ∧ True ∧ (false = true ∧ True) ∧ True) ∧ (¬¬((↑(chg (qc (tmL l) (0 : Nat) (0 : Nat))) : Int) - (↑(readL (tmL l)).length : Int)).tmod (2 : Int) = 0 → True ∧ True ∧ True ∧ True ∧ True ∧ True ∧ (¬(0 : Int) = 0 → True ∧ True ∧ True ∧ ((0 : Int) = 8 → (True ∧ True) ∧ True ∧ True ∧ True ∧ (true = true ∧ True) ∧ True) ∧ (¬(0 : Int) = 8 → True ∧ True ∧ True ∧ (false = true ∧ True) ∧ True)) ∧ (¬¬(0 : Int) = 0 → True ∧ ((yesP (mir (tmL l)) ∧ plainP (mir (tmL l)) ∧ readB (mir (tmL l)) = true) ∧ True) ∧ True ∧ True ∧ True ∧ True ∧ True ∧ True ∧ ((yesP (mir (tmL l)) ∧ ¬posP (mir (tmL l))) ∧ True) ∧ True ∧ True ∧ True ∧ True ∧ True ∧ True ∧ True ∧ True ∧ True ∧ True ∧ True ∧ ((0 : Int) = 0 → True ∧ True ∧ True ∧ True ∧ True ∧ ((↑(readL (mir (tmL l))).length : Int) = (↑(readL (tmL l)).length : Int) → True ∧ True ∧ True ∧ True ∧ ((0 : Int) = 0 → True ∧ True ∧ True ∧ True ∧ True ∧ (true = true → (True ∧ True) ∧ True ∧ True ∧ True ∧ (true = true ∧ True) ∧ True) ∧ (true = false → True ∧ True ∧ True ∧ (false = true ∧ True) ∧ True)) ∧ (¬(0 : Int) = 0 → True ∧ True ∧ True ∧ True ∧ True ∧ (false = true ∧ True) ∧ True)) ∧ (¬(↑(readL (mir (tmL l))).length : Int) = (↑(readL (tmL l)).length : Int) → True ∧ True ∧ True ∧ True ∧ True ∧ True ∧ True ∧ (false = true ∧ True) ∧ True)) ∧ (¬(0 : Int) = 0 → True ∧ True ∧ True ∧ True ∧ True ∧ True ∧ True ∧ True ∧ True ∧ (false = true ∧ True) ∧ True))))))) ∧ (¬(0 : Int) = 0 → True ∧ True ∧ (¬(0 : Int) = 0 → True ∧ True ∧ True ∧ ((0 : Int) = 8 → (True ∧ True) ∧ True ∧ True ∧ True ∧ (true = true ∧ True) ∧ True) ∧ (¬(0 : Int) = 8 → True ∧ True ∧ True ∧ (false = true ∧ True) ∧ True)) ∧ (¬¬(0 : Int) = 0 → True ∧ ((yesP (mir (tmL l)) ∧ plainP (mir (tmL l)) ∧ readB (mir (tmL l)) = true) ∧ True) ∧ True ∧ True ∧ True ∧ True ∧ True ∧ True ∧ ((yesP (mir (tmL l)) ∧ ¬posP (mir (tmL l))) ∧ True) ∧ True ∧ True ∧ True ∧ True ∧ True ∧ True ∧ True ∧ True ∧ True ∧ True ∧ True ∧ ((0 : Int) = 0 → True ∧ True ∧ True ∧ True ∧ True ∧ ((↑(readL (mir (tmL l))).length : Int) = (↑(readL (tmL l)).length : Int) → True ∧ True ∧ True ∧ True ∧ ((0 : Int) = 0 → True ∧ True ∧ True ∧ True ∧ True ∧ (true = true → (True ∧ True) ∧ True ∧ True ∧ True ∧ (true = true ∧ True) ∧ True) ∧ (true = false → True ∧ True ∧ True ∧ (false = true ∧ True) ∧ True)) ∧ (¬(0 : Int) = 0 → True ∧ True ∧ True ∧ True ∧ True ∧ (false = true ∧ True) ∧ True)) ∧ (¬(↑(readL (mir (tmL l))).length : Int) = (↑(readL (tmL l)).length : Int) → True ∧ True ∧ True ∧ True ∧ True ∧ True ∧ True ∧ (false = true ∧ True) ∧ True)) ∧ (¬(0 : Int) = 0 → True ∧ True ∧ True ∧ True ∧ True ∧ True ∧ True ∧ True ∧ True ∧ (false = true ∧ True) ∧ True)))))))) (by kernel_rfl) ?_
 simp only [zz, not_true_eq_false, not_false_eq_true, true_imp_iff, false_imp_iff, implies_true, Bool.false_eq_true, Bool.true_eq_false, reduceCtorEq, imp_false]
 repeat' first | assumption | omega | exact ht | (simp only [inR]; omega) | exact fun h => h | exact hq | (exact absurd rfl ‹_›) | intro _ | refine And.intro ?_ ?_
set_option maxHeartbeats 2000000 in
theorem c6CNZ (l : List Int) (h : l.length < 1000000000000000) (hC : pC (tmL l)) (hN : pN (tmL l)) (hm : ¬ coefs (mir (tmL l))) : GCall Tryd.prog gl 6 true [.sl I64 l] [] [.tt] [] := by
 have hp : isPoly (tmL l) := tmL_poly l
 have hy : yesP (tmL l) := ⟨by have := hp.2.1; omega, hp⟩
 have hk := qc_length (tmL l) 0 0
 have hk1 : (qc (tmL l) 0 0).length + 1 ≤ 1000000 := by rw [hk]; have := hp.2.1; omega
 have h1 : l.length + 1 ≤ 1000000000000000 := h
 have hle := readL_le (tmL l)
 have hpa := readL_par hp hC.2.1 hC.2.2
 have hml := readL_mir hp hC.2.2
 have hcg : chg (qc (tmL l) 0 0) = cgs (tmL l) 0 0 := rfl
 have hlt : cgs (tmL l) 0 0 < 1000000 := cgs_lt hp
 have ht : ((chg (qc (tmL l) 0 0) : Int) - ((readL (tmL l)).length : Int)).tmod 2 = 0 := by
   rw [Int.tmod_eq_emod_of_nonneg (by omega)]; omega
 have hC' := hC
 have hN' := hN
 unfold pC at hC'
 unfold pN at hN'
 refine gcall_of (X := (X E6CNZ)) ((X_ok E6CNZ)) (f := 6) (fn := Tryd.f6) (c := bodyOf Tryd.f6) (by kernel_rfl) (by kernel_rfl) (view := false) (rvs := [.tmp 2]) (by kernel_rfl) (H := fun _ => none) 400 (by kernel_rfl) ?_
 refine of_eq (q := True ∧ True ∧ (l.length + 1 ≤ 1000000000000000 ∧ True) ∧ True ∧ True ∧ ((yesP (tmL l) ∧ plainP (tmL l) ∧ readB (tmL l) = true) ∧ True) ∧ True ∧ True ∧ True ∧ True ∧ True ∧ True ∧ True ∧ ((yesP (tmL l) ∧ ((0 : Int), (0 : Int)) = ((0 : Int), (0 : Int))) ∧ True) ∧ True ∧ True ∧ True ∧ True ∧ True ∧ True ∧ ((yesP (tmL l) ∧ ¬posP (tmL l)) ∧ True) ∧ True ∧ True ∧ True ∧ True ∧ True ∧ True ∧ True ∧ True ∧ (((tmL l).length < 1000000 ∧ isPoly (tmL l)) ∧ True) ∧ True ∧ True ∧ True ∧ True ∧ True ∧ True ∧ True ∧ True ∧ True ∧ ((yesP (tmL l) ∧ ¬coefs (mir (tmL l))) ∧ True) ∧ True ∧ True ∧ True ∧ True ∧ True ∧ True ∧ True ∧ True ∧ (¬(0 : Int) = 0 → True ∧ True ∧ True ∧ True ∧ True ∧ True ∧ True ∧ True ∧ True ∧ (false = true ∧ True) ∧ True) ∧ (¬¬(0 : Int) = 0 → True ∧ True ∧ True ∧ True ∧ (¬(0 : Int) = 0 → True ∧ True ∧ True ∧ True ∧ True ∧ True ∧ True ∧ (false = true ∧ True) ∧ True) ∧ (¬¬(0 : Int) = 0 → True ∧ True ∧ True ∧ True ∧ (¬(0 : Int) = 0 → True ∧ True ∧ True ∧ True ∧ True ∧ (false = true ∧ True) ∧ True) ∧ (¬¬(0 : Int) = 0 → True ∧ True ∧ True ∧ True ∧ True ∧ True ∧ True ∧ True ∧ True ∧ True ∧ True ∧ (¬(↑(qc (tmL l) (0 : Nat) (0 : Nat)).length : Int) = (↑(tmL l).length : Int) → True ∧ True ∧ (false = true ∧ True) ∧ True) ∧ (¬¬(↑(qc (tmL l) (0 : Nat) (0 : Nat)).length : Int) = (↑(tmL l).length : Int) → True ∧ True ∧ ((0 : Int) = 0 → True ∧ ((qc (tmL l) (0 : Nat) (0 : Nat)).length + 1 ≤ 1000000 ∧ True) ∧ True ∧ True ∧ ((yesP (tmL l) ∧ plainP (tmL l) ∧ readB (tmL l) = true) ∧ True) ∧ True ∧ True ∧ True ∧ True ∧ True ∧ True ∧ True ∧ True ∧ (¬(0 : Int) = 0 → True ∧ True ∧ True ∧ True ∧ True ∧ True ∧ True ∧ True ∧ True ∧ (false = true ∧ True) ∧ True) ∧ (¬¬(0 : Int) = 0 → True ∧ True ∧ True ∧ True ∧ True ∧ True ∧ (¬(↑(readL (tmL l)).length : Int) = (↑(readL (tmL l)).length : Int) → True ∧ True ∧ True ∧ True ∧ True ∧ True ∧ True ∧ (false = true ∧ True) ∧ True) ∧ (¬¬(↑(readL (tmL l)).length : Int) = (↑(readL (tmL l)).length : Int) → True ∧ True ∧ True ∧ True ∧ True ∧ ((↑(chg (qc (tmL l) (0 : Nat) (0 : Nat))) : Int) < (↑(readL (tmL l)).length : Int) → True ∧ True ∧ True ∧ True ∧ True ∧ (false = true ∧ True) ∧ True) ∧ (¬(↑(chg (qc (tmL l) (0 : Nat) (0 : Nat))) : Int) < (↑(readL (tmL l)).length : Int) → True ∧ True ∧ inR .i64 ((↑(chg (qc (tmL l) (0 : Nat) (0 : Nat))) : Int) - (↑(readL (tmL l)).length : Int)) ∧ ¬(2 : Int) = 0 ∧ True ∧ True ∧ True ∧ (¬((↑(chg (qc (tmL l) (0 : Nat) (0 : Nat))) : Int) - (↑(readL (tmL l)).length : Int)).tmod (2 : Int) = 0 → True ∧ True ∧ True ∧ (false = true ∧ True) ∧ True) ∧ (¬¬((↑(chg (qc (tmL l) (0 : Nat) (0 : Nat))) : Int) - (↑(readL (tmL l)).length : Int)).tmod (2 : Int) = 0 → True ∧ True ∧ True ∧ True ∧ True ∧ True ∧ (¬(8 : Int) = 0 → True ∧ True ∧ True ∧ ((8 : Int) = 8 → (True ∧ True) ∧ True ∧ True ∧ True ∧ (true = true ∧ True) ∧ True) ∧ (¬(8 : Int) = 8 → True ∧ True ∧ True ∧ (false = true ∧ True) ∧ True)) ∧ (¬¬(8 : Int) = 0 → True ∧ ((yesP [] ∧ plainP [] ∧ true = true) ∧ True) ∧ True ∧ True ∧ True ∧ True ∧ True ∧ True ∧ ((yesP [] ∧ ¬posP []) ∧ True) ∧ True ∧ True ∧ True ∧ True ∧ True ∧ True ∧ True ∧ True ∧ True ∧ True ∧ True ∧ ((0 : Int) = 0 → True ∧ True ∧ True ∧ True ∧ True ∧ ((↑(readL []).length : Int) = (↑(readL (tmL l)).length : Int) → True ∧ True ∧ True ∧ True ∧ ((0 : Int) = 0 → True ∧ True ∧ True ∧ True ∧ True ∧ (true = true → (True ∧ True) ∧ True ∧ True ∧ True ∧ (true = true ∧ True) ∧ True) ∧ (true = false → True ∧ True ∧ True ∧ (false = true ∧ True) ∧ True)) ∧ (¬(0 : Int) = 0 → True ∧ True ∧ True ∧ True ∧ True ∧ (false = true ∧ True) ∧ True)) ∧ (¬(↑(readL []).length : Int) = (↑(readL (tmL l)).length : Int) → True ∧ True ∧ True ∧ True ∧ True ∧ True ∧ True ∧ (false = true ∧ True) ∧ True)) ∧ (¬(0 : Int) = 0 → True ∧ True ∧ True ∧ True ∧ True ∧ True ∧ True ∧ True ∧ True ∧ (false = true ∧ True) ∧ True))))))) ∧ (¬(0 : Int) = 0 → True ∧ True ∧ (¬(8 : Int) = 0 → True ∧ True ∧ True ∧ ((8 : Int) = 8 → (True ∧ True) ∧ True ∧ True ∧ True ∧ (true = true ∧ True) ∧ True) ∧ (¬(8 : Int) = 8 → True ∧ True ∧ True ∧ (false = true ∧ True) ∧ True)) ∧ (¬¬(8 : Int) = 0 → True ∧ ((yesP [] ∧ plainP [] ∧ true = true) ∧ True) ∧ True ∧ True ∧ True ∧ True ∧ True ∧ True ∧ ((yesP [] ∧ ¬posP []) ∧ True) ∧ True ∧ True ∧ True ∧ True ∧ True ∧ True ∧ True ∧ True ∧ True ∧ True ∧ True ∧ ((0 : Int) = 0 → True ∧ True ∧ True ∧ True ∧ True ∧ ((↑(readL []).length : Int) = (↑(readL (tmL l)).length : Int) → True ∧ True ∧ True ∧ True ∧ ((0 : Int) = 0 → True ∧ True ∧ True ∧ True ∧ True ∧ (true = true → (True ∧ True) ∧ True ∧ True ∧ True ∧ (true = true ∧ True) ∧ True) ∧ (true = false → True ∧ True ∧ True ∧ (false = true ∧ True) ∧ True)) ∧ (¬(0 : Int) = 0 → True ∧ True ∧ True ∧ True ∧ True ∧ (false = true ∧ True) ∧ True)) ∧ (¬(↑(readL []).length : Int) = (↑(readL (tmL l)).length : Int) → True ∧ True ∧ True ∧ True ∧ True ∧ True ∧ True ∧ (false = true ∧ True) ∧ True)) ∧ (¬(0 : Int) = 0 → True ∧ True ∧ True ∧ True ∧ True ∧ True ∧ True ∧ True ∧ True ∧ (false = true ∧ True) ∧ True)))))))) (by kernel_rfl) ?_
 simp only [zz, not_true_eq_false, not_false_eq_true, true_imp_iff, false_imp_iff, implies_true, Bool.false_eq_true, Bool.true_eq_false, reduceCtorEq, imp_false]
 repeat' first | assumption | omega | exact ht | (simp only [inR]; omega) | exact fun h => h | exact hq | (exact absurd rfl ‹_›) | intro _ | refine And.intro ?_ ?_
set_option maxHeartbeats 2000000 in
theorem c6DYW (l : List Int) (h : l.length < 1000000000000000) (hD : pD (tmL l)) (hY : pY (tmL l)) (hm : coefs (mir (tmL l))) : GCall Tryd.prog gl 6 true [.sl I64 l] [] [.tt] [] := by
 have hp : isPoly (tmL l) := tmL_poly l
 have hy : yesP (tmL l) := ⟨by have := hp.2.1; omega, hp⟩
 have hk := qc_length (tmL l) 0 0
 have hk1 : (qc (tmL l) 0 0).length + 1 ≤ 1000000 := by rw [hk]; have := hp.2.1; omega
 have hE := pD_err hD
 have hEm := err_mir hp hm
 have h1 : l.length + 1 ≤ 1000000000000000 := h
 have hD' := hD
 have hY' := hY
 unfold pD at hD'
 unfold pY at hY'
 have mD := pD_mir hD hm
 have mY := pY_mir hY hm
 unfold pD at mD
 unfold pY at mY
 refine gcall_of (X := (X E6DYW)) ((X_ok E6DYW)) (f := 6) (fn := Tryd.f6) (c := bodyOf Tryd.f6) (by kernel_rfl) (by kernel_rfl) (view := false) (rvs := [.tmp 2]) (by kernel_rfl) (H := fun _ => none) 400 (by kernel_rfl) ?_
 refine of_eq (q := True ∧ True ∧ (l.length + 1 ≤ 1000000000000000 ∧ True) ∧ True ∧ True ∧ ((yesP (tmL l) ∧ ¬(plainP (tmL l) ∧ readB (tmL l) = true)) ∧ True) ∧ True ∧ True ∧ True ∧ True ∧ True ∧ True ∧ True ∧ ((yesP (tmL l) ∧ ((0 : Int), (0 : Int)) = ((0 : Int), (0 : Int))) ∧ True) ∧ True ∧ True ∧ True ∧ True ∧ True ∧ True ∧ ((yesP (tmL l) ∧ posP (tmL l)) ∧ True) ∧ True ∧ True ∧ True ∧ True ∧ True ∧ True ∧ True ∧ True ∧ ((yesP (tmL l) ∧ posP (tmL l)) ∧ True) ∧ True ∧ True ∧ True ∧ True ∧ True ∧ True ∧ True ∧ True ∧ True ∧ ((yesP (tmL l) ∧ coefs (mir (tmL l))) ∧ True) ∧ True ∧ True ∧ True ∧ True ∧ True ∧ True ∧ True ∧ True ∧ (¬(0 : Int) = 0 → True ∧ True ∧ True ∧ True ∧ True ∧ True ∧ True ∧ True ∧ True ∧ (false = true ∧ True) ∧ True) ∧ (¬¬(0 : Int) = 0 → True ∧ True ∧ True ∧ True ∧ (¬(0 : Int) = 0 → True ∧ True ∧ True ∧ True ∧ True ∧ True ∧ True ∧ (false = true ∧ True) ∧ True) ∧ (¬¬(0 : Int) = 0 → True ∧ True ∧ True ∧ True ∧ (¬(0 : Int) = 0 → True ∧ True ∧ True ∧ True ∧ True ∧ (false = true ∧ True) ∧ True) ∧ (¬¬(0 : Int) = 0 → True ∧ True ∧ True ∧ True ∧ True ∧ True ∧ True ∧ True ∧ True ∧ True ∧ True ∧ True ∧ (¬(↑(qc (tmL l) (0 : Nat) (0 : Nat)).length : Int) = (↑(tmL l).length : Int) → True ∧ True ∧ (false = true ∧ True) ∧ True) ∧ (¬¬(↑(qc (tmL l) (0 : Nat) (0 : Nat)).length : Int) = (↑(tmL l).length : Int) → True ∧ True ∧ (rootsE (tmL l) = 0 → True ∧ ((qc (tmL l) (0 : Nat) (0 : Nat)).length + 1 ≤ 1000000 ∧ True) ∧ True ∧ True ∧ ((yesP (tmL l) ∧ ¬(plainP (tmL l) ∧ readB (tmL l) = true)) ∧ True) ∧ True ∧ True ∧ True ∧ True ∧ True ∧ True ∧ True ∧ True ∧ (¬rootsE (tmL l) = 0 → True ∧ True ∧ True ∧ True ∧ True ∧ True ∧ True ∧ True ∧ True ∧ (false = true ∧ True) ∧ True) ∧ (¬¬rootsE (tmL l) = 0 → True ∧ True ∧ True ∧ True ∧ True ∧ True ∧ (¬(0 : Int) = 0 → True ∧ True ∧ True ∧ True ∧ True ∧ True ∧ True ∧ (false = true ∧ True) ∧ True) ∧ (¬¬(0 : Int) = 0 → True ∧ True ∧ True ∧ True ∧ True ∧ ((↑(chg (qc (tmL l) (0 : Nat) (0 : Nat))) : Int) < 0 → True ∧ True ∧ True ∧ True ∧ True ∧ (false = true ∧ True) ∧ True) ∧ (¬(↑(chg (qc (tmL l) (0 : Nat) (0 : Nat))) : Int) < 0 → True ∧ True ∧ inR .i64 ((↑(chg (qc (tmL l) (0 : Nat) (0 : Nat))) : Int) - 0) ∧ ¬(2 : Int) = 0 ∧ True ∧ True ∧ True ∧ (¬((↑(chg (qc (tmL l) (0 : Nat) (0 : Nat))) : Int) - 0).tmod (2 : Int) = 0 → True ∧ True ∧ True ∧ (false = true ∧ True) ∧ True) ∧ (¬¬((↑(chg (qc (tmL l) (0 : Nat) (0 : Nat))) : Int) - 0).tmod (2 : Int) = 0 → True ∧ True ∧ True ∧ True ∧ True ∧ True ∧ (¬(0 : Int) = 0 → True ∧ True ∧ (false = true ∧ True) ∧ True) ∧ (¬¬(0 : Int) = 0 → True ∧ True ∧ (¬(0 : Int) = 0 → True ∧ True ∧ True ∧ ((0 : Int) = 8 → (True ∧ True) ∧ True ∧ True ∧ True ∧ (true = true ∧ True) ∧ True) ∧ (¬(0 : Int) = 8 → True ∧ True ∧ True ∧ (false = true ∧ True) ∧ True)) ∧ (¬¬(0 : Int) = 0 → True ∧ ((yesP (mir (tmL l)) ∧ ¬(plainP (mir (tmL l)) ∧ readB (mir (tmL l)) = true)) ∧ True) ∧ True ∧ True ∧ True ∧ True ∧ True ∧ True ∧ ((yesP (mir (tmL l)) ∧ posP (mir (tmL l))) ∧ True) ∧ True ∧ True ∧ True ∧ True ∧ True ∧ True ∧ True ∧ True ∧ True ∧ True ∧ True ∧ (rootsE (mir (tmL l)) = rootsE (tmL l) → True ∧ True ∧ True ∧ True ∧ True ∧ ((0 : Int) = 0 → True ∧ True ∧ True ∧ True ∧ ((0 : Int) = 0 → True ∧ True ∧ True ∧ True ∧ True ∧ (true = true → (True ∧ True) ∧ True ∧ True ∧ True ∧ (true = true ∧ True) ∧ True) ∧ (true = false → True ∧ True ∧ True ∧ (false = true ∧ True) ∧ True)) ∧ (¬(0 : Int) = 0 → True ∧ True ∧ True ∧ True ∧ True ∧ (false = true ∧ True) ∧ True)) ∧ (¬(0 : Int) = 0 → True ∧ True ∧ True ∧ True ∧ True ∧ True ∧ True ∧ (false = true ∧ True) ∧ True)) ∧ (¬rootsE (mir (tmL l)) = rootsE (tmL l) → True ∧ True ∧ True ∧ True ∧ True ∧ True ∧ True ∧ True ∧ True ∧ (false = true ∧ True) ∧ True)))))))) ∧ (¬rootsE (tmL l) = 0 → True ∧ True ∧ (¬(0 : Int) = 0 → True ∧ True ∧ True ∧ ((0 : Int) = 8 → (True ∧ True) ∧ True ∧ True ∧ True ∧ (true = true ∧ True) ∧ True) ∧ (¬(0 : Int) = 8 → True ∧ True ∧ True ∧ (false = true ∧ True) ∧ True)) ∧ (¬¬(0 : Int) = 0 → True ∧ ((yesP (mir (tmL l)) ∧ ¬(plainP (mir (tmL l)) ∧ readB (mir (tmL l)) = true)) ∧ True) ∧ True ∧ True ∧ True ∧ True ∧ True ∧ True ∧ ((yesP (mir (tmL l)) ∧ posP (mir (tmL l))) ∧ True) ∧ True ∧ True ∧ True ∧ True ∧ True ∧ True ∧ True ∧ True ∧ True ∧ True ∧ True ∧ (rootsE (mir (tmL l)) = rootsE (tmL l) → True ∧ True ∧ True ∧ True ∧ True ∧ ((0 : Int) = 0 → True ∧ True ∧ True ∧ True ∧ ((0 : Int) = 0 → True ∧ True ∧ True ∧ True ∧ True ∧ (true = true → (True ∧ True) ∧ True ∧ True ∧ True ∧ (true = true ∧ True) ∧ True) ∧ (true = false → True ∧ True ∧ True ∧ (false = true ∧ True) ∧ True)) ∧ (¬(0 : Int) = 0 → True ∧ True ∧ True ∧ True ∧ True ∧ (false = true ∧ True) ∧ True)) ∧ (¬(0 : Int) = 0 → True ∧ True ∧ True ∧ True ∧ True ∧ True ∧ True ∧ (false = true ∧ True) ∧ True)) ∧ (¬rootsE (mir (tmL l)) = rootsE (tmL l) → True ∧ True ∧ True ∧ True ∧ True ∧ True ∧ True ∧ True ∧ True ∧ (false = true ∧ True) ∧ True)))))))) (by kernel_rfl) ?_
 simp only [zz, not_true_eq_false, not_false_eq_true, true_imp_iff, false_imp_iff, implies_true, Bool.false_eq_true, Bool.true_eq_false, reduceCtorEq, imp_false]
 repeat' first | assumption | omega | exact ht | (simp only [inR]; omega) | exact fun h => h | exact hq | (exact absurd rfl ‹_›) | intro _ | refine And.intro ?_ ?_
set_option maxHeartbeats 2000000 in
theorem c6DYZ (l : List Int) (h : l.length < 1000000000000000) (hD : pD (tmL l)) (hY : pY (tmL l)) (hm : ¬ coefs (mir (tmL l))) : GCall Tryd.prog gl 6 true [.sl I64 l] [] [.tt] [] := by
 have hp : isPoly (tmL l) := tmL_poly l
 have hy : yesP (tmL l) := ⟨by have := hp.2.1; omega, hp⟩
 have hk := qc_length (tmL l) 0 0
 have hk1 : (qc (tmL l) 0 0).length + 1 ≤ 1000000 := by rw [hk]; have := hp.2.1; omega
 have hE := pD_err hD
 have h1 : l.length + 1 ≤ 1000000000000000 := h
 have hD' := hD
 have hY' := hY
 unfold pD at hD'
 unfold pY at hY'
 refine gcall_of (X := (X E6DYZ)) ((X_ok E6DYZ)) (f := 6) (fn := Tryd.f6) (c := bodyOf Tryd.f6) (by kernel_rfl) (by kernel_rfl) (view := false) (rvs := [.tmp 2]) (by kernel_rfl) (H := fun _ => none) 400 (by kernel_rfl) ?_
 refine of_eq (q := True ∧ True ∧ (l.length + 1 ≤ 1000000000000000 ∧ True) ∧ True ∧ True ∧ ((yesP (tmL l) ∧ ¬(plainP (tmL l) ∧ readB (tmL l) = true)) ∧ True) ∧ True ∧ True ∧ True ∧ True ∧ True ∧ True ∧ True ∧ ((yesP (tmL l) ∧ ((0 : Int), (0 : Int)) = ((0 : Int), (0 : Int))) ∧ True) ∧ True ∧ True ∧ True ∧ True ∧ True ∧ True ∧ ((yesP (tmL l) ∧ posP (tmL l)) ∧ True) ∧ True ∧ True ∧ True ∧ True ∧ True ∧ True ∧ True ∧ True ∧ ((yesP (tmL l) ∧ posP (tmL l)) ∧ True) ∧ True ∧ True ∧ True ∧ True ∧ True ∧ True ∧ True ∧ True ∧ True ∧ ((yesP (tmL l) ∧ ¬coefs (mir (tmL l))) ∧ True) ∧ True ∧ True ∧ True ∧ True ∧ True ∧ True ∧ True ∧ True ∧ (¬(0 : Int) = 0 → True ∧ True ∧ True ∧ True ∧ True ∧ True ∧ True ∧ True ∧ True ∧ (false = true ∧ True) ∧ True) ∧ (¬¬(0 : Int) = 0 → True ∧ True ∧ True ∧ True ∧ (¬(0 : Int) = 0 → True ∧ True ∧ True ∧ True ∧ True ∧ True ∧ True ∧ (false = true ∧ True) ∧ True) ∧ (¬¬(0 : Int) = 0 → True ∧ True ∧ True ∧ True ∧ (¬(0 : Int) = 0 → True ∧ True ∧ True ∧ True ∧ True ∧ (false = true ∧ True) ∧ True) ∧ (¬¬(0 : Int) = 0 → True ∧ True ∧ True ∧ True ∧ True ∧ True ∧ True ∧ True ∧ True ∧ True ∧ True ∧ True ∧ (¬(↑(qc (tmL l) (0 : Nat) (0 : Nat)).length : Int) = (↑(tmL l).length : Int) → True ∧ True ∧ (false = true ∧ True) ∧ True) ∧ (¬¬(↑(qc (tmL l) (0 : Nat) (0 : Nat)).length : Int) = (↑(tmL l).length : Int) → True ∧ True ∧ (rootsE (tmL l) = 0 → True ∧ ((qc (tmL l) (0 : Nat) (0 : Nat)).length + 1 ≤ 1000000 ∧ True) ∧ True ∧ True ∧ ((yesP (tmL l) ∧ ¬(plainP (tmL l) ∧ readB (tmL l) = true)) ∧ True) ∧ True ∧ True ∧ True ∧ True ∧ True ∧ True ∧ True ∧ True ∧ (¬rootsE (tmL l) = 0 → True ∧ True ∧ True ∧ True ∧ True ∧ True ∧ True ∧ True ∧ True ∧ (false = true ∧ True) ∧ True) ∧ (¬¬rootsE (tmL l) = 0 → True ∧ True ∧ True ∧ True ∧ True ∧ True ∧ (¬(0 : Int) = 0 → True ∧ True ∧ True ∧ True ∧ True ∧ True ∧ True ∧ (false = true ∧ True) ∧ True) ∧ (¬¬(0 : Int) = 0 → True ∧ True ∧ True ∧ True ∧ True ∧ ((↑(chg (qc (tmL l) (0 : Nat) (0 : Nat))) : Int) < 0 → True ∧ True ∧ True ∧ True ∧ True ∧ (false = true ∧ True) ∧ True) ∧ (¬(↑(chg (qc (tmL l) (0 : Nat) (0 : Nat))) : Int) < 0 → True ∧ True ∧ inR .i64 ((↑(chg (qc (tmL l) (0 : Nat) (0 : Nat))) : Int) - 0) ∧ ¬(2 : Int) = 0 ∧ True ∧ True ∧ True ∧ (¬((↑(chg (qc (tmL l) (0 : Nat) (0 : Nat))) : Int) - 0).tmod (2 : Int) = 0 → True ∧ True ∧ True ∧ (false = true ∧ True) ∧ True) ∧ (¬¬((↑(chg (qc (tmL l) (0 : Nat) (0 : Nat))) : Int) - 0).tmod (2 : Int) = 0 → True ∧ True ∧ True ∧ True ∧ True ∧ True ∧ (¬(0 : Int) = 0 → True ∧ True ∧ (false = true ∧ True) ∧ True) ∧ (¬¬(0 : Int) = 0 → True ∧ True ∧ (¬(8 : Int) = 0 → True ∧ True ∧ True ∧ ((8 : Int) = 8 → (True ∧ True) ∧ True ∧ True ∧ True ∧ (true = true ∧ True) ∧ True) ∧ (¬(8 : Int) = 8 → True ∧ True ∧ True ∧ (false = true ∧ True) ∧ True)) ∧ (¬¬(8 : Int) = 0 → True ∧ ((yesP [] ∧ ¬(plainP [] ∧ readB [] = true)) ∧ True) ∧ True ∧ True ∧ True ∧ True ∧ True ∧ True ∧ ((yesP [] ∧ posP []) ∧ True) ∧ True ∧ True ∧ True ∧ True ∧ True ∧ True ∧ True ∧ True ∧ True ∧ True ∧ True ∧ (rootsE [] = rootsE (tmL l) → True ∧ True ∧ True ∧ True ∧ True ∧ ((0 : Int) = 0 → True ∧ True ∧ True ∧ True ∧ ((0 : Int) = 0 → True ∧ True ∧ True ∧ True ∧ True ∧ (true = true → (True ∧ True) ∧ True ∧ True ∧ True ∧ (true = true ∧ True) ∧ True) ∧ (true = false → True ∧ True ∧ True ∧ (false = true ∧ True) ∧ True)) ∧ (¬(0 : Int) = 0 → True ∧ True ∧ True ∧ True ∧ True ∧ (false = true ∧ True) ∧ True)) ∧ (¬(0 : Int) = 0 → True ∧ True ∧ True ∧ True ∧ True ∧ True ∧ True ∧ (false = true ∧ True) ∧ True)) ∧ (¬rootsE [] = rootsE (tmL l) → True ∧ True ∧ True ∧ True ∧ True ∧ True ∧ True ∧ True ∧ True ∧ (false = true ∧ True) ∧ True)))))))) ∧ (¬rootsE (tmL l) = 0 → True ∧ True ∧ (¬(8 : Int) = 0 → True ∧ True ∧ True ∧ ((8 : Int) = 8 → (True ∧ True) ∧ True ∧ True ∧ True ∧ (true = true ∧ True) ∧ True) ∧ (¬(8 : Int) = 8 → True ∧ True ∧ True ∧ (false = true ∧ True) ∧ True)) ∧ (¬¬(8 : Int) = 0 → True ∧ ((yesP [] ∧ ¬(plainP [] ∧ readB [] = true)) ∧ True) ∧ True ∧ True ∧ True ∧ True ∧ True ∧ True ∧ ((yesP [] ∧ posP []) ∧ True) ∧ True ∧ True ∧ True ∧ True ∧ True ∧ True ∧ True ∧ True ∧ True ∧ True ∧ True ∧ (rootsE [] = rootsE (tmL l) → True ∧ True ∧ True ∧ True ∧ True ∧ ((0 : Int) = 0 → True ∧ True ∧ True ∧ True ∧ ((0 : Int) = 0 → True ∧ True ∧ True ∧ True ∧ True ∧ (true = true → (True ∧ True) ∧ True ∧ True ∧ True ∧ (true = true ∧ True) ∧ True) ∧ (true = false → True ∧ True ∧ True ∧ (false = true ∧ True) ∧ True)) ∧ (¬(0 : Int) = 0 → True ∧ True ∧ True ∧ True ∧ True ∧ (false = true ∧ True) ∧ True)) ∧ (¬(0 : Int) = 0 → True ∧ True ∧ True ∧ True ∧ True ∧ True ∧ True ∧ (false = true ∧ True) ∧ True)) ∧ (¬rootsE [] = rootsE (tmL l) → True ∧ True ∧ True ∧ True ∧ True ∧ True ∧ True ∧ True ∧ True ∧ (false = true ∧ True) ∧ True)))))))) (by kernel_rfl) ?_
 simp only [zz, not_true_eq_false, not_false_eq_true, true_imp_iff, false_imp_iff, implies_true, Bool.false_eq_true, Bool.true_eq_false, reduceCtorEq, imp_false]
 repeat' first | assumption | omega | exact ht | (simp only [inR]; omega) | exact fun h => h | exact hq | (exact absurd rfl ‹_›) | intro _ | refine And.intro ?_ ?_
set_option maxHeartbeats 2000000 in
theorem c6DNW (l : List Int) (h : l.length < 1000000000000000) (hD : pD (tmL l)) (hN : pN (tmL l)) (hm : coefs (mir (tmL l))) : GCall Tryd.prog gl 6 true [.sl I64 l] [] [.tt] [] := by
 have hp : isPoly (tmL l) := tmL_poly l
 have hy : yesP (tmL l) := ⟨by have := hp.2.1; omega, hp⟩
 have hk := qc_length (tmL l) 0 0
 have hk1 : (qc (tmL l) 0 0).length + 1 ≤ 1000000 := by rw [hk]; have := hp.2.1; omega
 have hE := pD_err hD
 have hEm := err_mir hp hm
 have h1 : l.length + 1 ≤ 1000000000000000 := h
 have hD' := hD
 have hN' := hN
 unfold pD at hD'
 unfold pN at hN'
 have mD := pD_mir hD hm
 have mN := pN_mir hN hm
 unfold pD at mD
 unfold pN at mN
 refine gcall_of (X := (X E6DNW)) ((X_ok E6DNW)) (f := 6) (fn := Tryd.f6) (c := bodyOf Tryd.f6) (by kernel_rfl) (by kernel_rfl) (view := false) (rvs := [.tmp 2]) (by kernel_rfl) (H := fun _ => none) 400 (by kernel_rfl) ?_
 refine of_eq (q := True ∧ True ∧ (l.length + 1 ≤ 1000000000000000 ∧ True) ∧ True ∧ True ∧ ((yesP (tmL l) ∧ ¬(plainP (tmL l) ∧ readB (tmL l) = true)) ∧ True) ∧ True ∧ True ∧ True ∧ True ∧ True ∧ True ∧ True ∧ ((yesP (tmL l) ∧ ((0 : Int), (0 : Int)) = ((0 : Int), (0 : Int))) ∧ True) ∧ True ∧ True ∧ True ∧ True ∧ True ∧ True ∧ ((yesP (tmL l) ∧ ¬posP (tmL l)) ∧ True) ∧ True ∧ True ∧ True ∧ True ∧ True ∧ True ∧ True ∧ True ∧ (((tmL l).length < 1000000 ∧ isPoly (tmL l)) ∧ True) ∧ True ∧ True ∧ True ∧ True ∧ True ∧ True ∧ True ∧ True ∧ True ∧ ((yesP (tmL l) ∧ coefs (mir (tmL l))) ∧ True) ∧ True ∧ True ∧ True ∧ True ∧ True ∧ True ∧ True ∧ True ∧ (¬(0 : Int) = 0 → True ∧ True ∧ True ∧ True ∧ True ∧ True ∧ True ∧ True ∧ True ∧ (false = true ∧ True) ∧ True) ∧ (¬¬(0 : Int) = 0 → True ∧ True ∧ True ∧ True ∧ (¬(0 : Int) = 0 → True ∧ True ∧ True ∧ True ∧ True ∧ True ∧ True ∧ (false = true ∧ True) ∧ True) ∧ (¬¬(0 : Int) = 0 → True ∧ True ∧ True ∧ True ∧ (¬(0 : Int) = 0 → True ∧ True ∧ True ∧ True ∧ True ∧ (false = true ∧ True) ∧ True) ∧ (¬¬(0 : Int) = 0 → True ∧ True ∧ True ∧ True ∧ True ∧ True ∧ True ∧ True ∧ True ∧ True ∧ True ∧ (¬(↑(qc (tmL l) (0 : Nat) (0 : Nat)).length : Int) = (↑(tmL l).length : Int) → True ∧ True ∧ (false = true ∧ True) ∧ True) ∧ (¬¬(↑(qc (tmL l) (0 : Nat) (0 : Nat)).length : Int) = (↑(tmL l).length : Int) → True ∧ True ∧ (rootsE (tmL l) = 0 → True ∧ ((qc (tmL l) (0 : Nat) (0 : Nat)).length + 1 ≤ 1000000 ∧ True) ∧ True ∧ True ∧ ((yesP (tmL l) ∧ ¬(plainP (tmL l) ∧ readB (tmL l) = true)) ∧ True) ∧ True ∧ True ∧ True ∧ True ∧ True ∧ True ∧ True ∧ True ∧ (¬rootsE (tmL l) = 0 → True ∧ True ∧ True ∧ True ∧ True ∧ True ∧ True ∧ True ∧ True ∧ (false = true ∧ True) ∧ True) ∧ (¬¬rootsE (tmL l) = 0 → True ∧ True ∧ True ∧ True ∧ True ∧ True ∧ (¬(0 : Int) = 0 → True ∧ True ∧ True ∧ True ∧ True ∧ True ∧ True ∧ (false = true ∧ True) ∧ True) ∧ (¬¬(0 : Int) = 0 → True ∧ True ∧ True ∧ True ∧ True ∧ ((↑(chg (qc (tmL l) (0 : Nat) (0 : Nat))) : Int) < 0 → True ∧ True ∧ True ∧ True ∧ True ∧ (false = true ∧ True) ∧ True) ∧ (¬(↑(chg (qc (tmL l) (0 : Nat) (0 : Nat))) : Int) < 0 → True ∧ True ∧ inR .i64 ((↑(chg (qc (tmL l) (0 : Nat) (0 : Nat))) : Int) - 0) ∧ ¬(2 : Int) = 0 ∧ True ∧ True ∧ True ∧ (¬((↑(chg (qc (tmL l) (0 : Nat) (0 : Nat))) : Int) - 0).tmod (2 : Int) = 0 → True ∧ True ∧ True ∧ (false = true ∧ True) ∧ True) ∧ (¬¬((↑(chg (qc (tmL l) (0 : Nat) (0 : Nat))) : Int) - 0).tmod (2 : Int) = 0 → True ∧ True ∧ True ∧ True ∧ True ∧ True ∧ (¬(0 : Int) = 0 → True ∧ True ∧ True ∧ ((0 : Int) = 8 → (True ∧ True) ∧ True ∧ True ∧ True ∧ (true = true ∧ True) ∧ True) ∧ (¬(0 : Int) = 8 → True ∧ True ∧ True ∧ (false = true ∧ True) ∧ True)) ∧ (¬¬(0 : Int) = 0 → True ∧ ((yesP (mir (tmL l)) ∧ ¬(plainP (mir (tmL l)) ∧ readB (mir (tmL l)) = true)) ∧ True) ∧ True ∧ True ∧ True ∧ True ∧ True ∧ True ∧ ((yesP (mir (tmL l)) ∧ ¬posP (mir (tmL l))) ∧ True) ∧ True ∧ True ∧ True ∧ True ∧ True ∧ True ∧ True ∧ True ∧ True ∧ True ∧ True ∧ (rootsE (mir (tmL l)) = rootsE (tmL l) → True ∧ True ∧ True ∧ True ∧ True ∧ ((0 : Int) = 0 → True ∧ True ∧ True ∧ True ∧ ((0 : Int) = 0 → True ∧ True ∧ True ∧ True ∧ True ∧ (true = true → (True ∧ True) ∧ True ∧ True ∧ True ∧ (true = true ∧ True) ∧ True) ∧ (true = false → True ∧ True ∧ True ∧ (false = true ∧ True) ∧ True)) ∧ (¬(0 : Int) = 0 → True ∧ True ∧ True ∧ True ∧ True ∧ (false = true ∧ True) ∧ True)) ∧ (¬(0 : Int) = 0 → True ∧ True ∧ True ∧ True ∧ True ∧ True ∧ True ∧ (false = true ∧ True) ∧ True)) ∧ (¬rootsE (mir (tmL l)) = rootsE (tmL l) → True ∧ True ∧ True ∧ True ∧ True ∧ True ∧ True ∧ True ∧ True ∧ (false = true ∧ True) ∧ True))))))) ∧ (¬rootsE (tmL l) = 0 → True ∧ True ∧ (¬(0 : Int) = 0 → True ∧ True ∧ True ∧ ((0 : Int) = 8 → (True ∧ True) ∧ True ∧ True ∧ True ∧ (true = true ∧ True) ∧ True) ∧ (¬(0 : Int) = 8 → True ∧ True ∧ True ∧ (false = true ∧ True) ∧ True)) ∧ (¬¬(0 : Int) = 0 → True ∧ ((yesP (mir (tmL l)) ∧ ¬(plainP (mir (tmL l)) ∧ readB (mir (tmL l)) = true)) ∧ True) ∧ True ∧ True ∧ True ∧ True ∧ True ∧ True ∧ ((yesP (mir (tmL l)) ∧ ¬posP (mir (tmL l))) ∧ True) ∧ True ∧ True ∧ True ∧ True ∧ True ∧ True ∧ True ∧ True ∧ True ∧ True ∧ True ∧ (rootsE (mir (tmL l)) = rootsE (tmL l) → True ∧ True ∧ True ∧ True ∧ True ∧ ((0 : Int) = 0 → True ∧ True ∧ True ∧ True ∧ ((0 : Int) = 0 → True ∧ True ∧ True ∧ True ∧ True ∧ (true = true → (True ∧ True) ∧ True ∧ True ∧ True ∧ (true = true ∧ True) ∧ True) ∧ (true = false → True ∧ True ∧ True ∧ (false = true ∧ True) ∧ True)) ∧ (¬(0 : Int) = 0 → True ∧ True ∧ True ∧ True ∧ True ∧ (false = true ∧ True) ∧ True)) ∧ (¬(0 : Int) = 0 → True ∧ True ∧ True ∧ True ∧ True ∧ True ∧ True ∧ (false = true ∧ True) ∧ True)) ∧ (¬rootsE (mir (tmL l)) = rootsE (tmL l) → True ∧ True ∧ True ∧ True ∧ True ∧ True ∧ True ∧ True ∧ True ∧ (false = true ∧ True) ∧ True)))))))) (by kernel_rfl) ?_
 simp only [zz, not_true_eq_false, not_false_eq_true, true_imp_iff, false_imp_iff, implies_true, Bool.false_eq_true, Bool.true_eq_false, reduceCtorEq, imp_false]
 repeat' first | assumption | omega | exact ht | (simp only [inR]; omega) | exact fun h => h | exact hq | (exact absurd rfl ‹_›) | intro _ | refine And.intro ?_ ?_
set_option maxHeartbeats 2000000 in
theorem c6DNZ (l : List Int) (h : l.length < 1000000000000000) (hD : pD (tmL l)) (hN : pN (tmL l)) (hm : ¬ coefs (mir (tmL l))) : GCall Tryd.prog gl 6 true [.sl I64 l] [] [.tt] [] := by
 have hp : isPoly (tmL l) := tmL_poly l
 have hy : yesP (tmL l) := ⟨by have := hp.2.1; omega, hp⟩
 have hk := qc_length (tmL l) 0 0
 have hk1 : (qc (tmL l) 0 0).length + 1 ≤ 1000000 := by rw [hk]; have := hp.2.1; omega
 have hE := pD_err hD
 have h1 : l.length + 1 ≤ 1000000000000000 := h
 have hD' := hD
 have hN' := hN
 unfold pD at hD'
 unfold pN at hN'
 refine gcall_of (X := (X E6DNZ)) ((X_ok E6DNZ)) (f := 6) (fn := Tryd.f6) (c := bodyOf Tryd.f6) (by kernel_rfl) (by kernel_rfl) (view := false) (rvs := [.tmp 2]) (by kernel_rfl) (H := fun _ => none) 400 (by kernel_rfl) ?_
 refine of_eq (q := True ∧ True ∧ (l.length + 1 ≤ 1000000000000000 ∧ True) ∧ True ∧ True ∧ ((yesP (tmL l) ∧ ¬(plainP (tmL l) ∧ readB (tmL l) = true)) ∧ True) ∧ True ∧ True ∧ True ∧ True ∧ True ∧ True ∧ True ∧ ((yesP (tmL l) ∧ ((0 : Int), (0 : Int)) = ((0 : Int), (0 : Int))) ∧ True) ∧ True ∧ True ∧ True ∧ True ∧ True ∧ True ∧ ((yesP (tmL l) ∧ ¬posP (tmL l)) ∧ True) ∧ True ∧ True ∧ True ∧ True ∧ True ∧ True ∧ True ∧ True ∧ (((tmL l).length < 1000000 ∧ isPoly (tmL l)) ∧ True) ∧ True ∧ True ∧ True ∧ True ∧ True ∧ True ∧ True ∧ True ∧ True ∧ ((yesP (tmL l) ∧ ¬coefs (mir (tmL l))) ∧ True) ∧ True ∧ True ∧ True ∧ True ∧ True ∧ True ∧ True ∧ True ∧ (¬(0 : Int) = 0 → True ∧ True ∧ True ∧ True ∧ True ∧ True ∧ True ∧ True ∧ True ∧ (false = true ∧ True) ∧ True) ∧ (¬¬(0 : Int) = 0 → True ∧ True ∧ True ∧ True ∧ (¬(0 : Int) = 0 → True ∧ True ∧ True ∧ True ∧ True ∧ True ∧ True ∧ (false = true ∧ True) ∧ True) ∧ (¬¬(0 : Int) = 0 → True ∧ True ∧ True ∧ True ∧ (¬(0 : Int) = 0 → True ∧ True ∧ True ∧ True ∧ True ∧ (false = true ∧ True) ∧ True) ∧ (¬¬(0 : Int) = 0 → True ∧ True ∧ True ∧ True ∧ True ∧ True ∧ True ∧ True ∧ True ∧ True ∧ True ∧ (¬(↑(qc (tmL l) (0 : Nat) (0 : Nat)).length : Int) = (↑(tmL l).length : Int) → True ∧ True ∧ (false = true ∧ True) ∧ True) ∧ (¬¬(↑(qc (tmL l) (0 : Nat) (0 : Nat)).length : Int) = (↑(tmL l).length : Int) → True ∧ True ∧ (rootsE (tmL l) = 0 → True ∧ ((qc (tmL l) (0 : Nat) (0 : Nat)).length + 1 ≤ 1000000 ∧ True) ∧ True ∧ True ∧ ((yesP (tmL l) ∧ ¬(plainP (tmL l) ∧ readB (tmL l) = true)) ∧ True) ∧ True ∧ True ∧ True ∧ True ∧ True ∧ True ∧ True ∧ True ∧ (¬rootsE (tmL l) = 0 → True ∧ True ∧ True ∧ True ∧ True ∧ True ∧ True ∧ True ∧ True ∧ (false = true ∧ True) ∧ True) ∧ (¬¬rootsE (tmL l) = 0 → True ∧ True ∧ True ∧ True ∧ True ∧ True ∧ (¬(0 : Int) = 0 → True ∧ True ∧ True ∧ True ∧ True ∧ True ∧ True ∧ (false = true ∧ True) ∧ True) ∧ (¬¬(0 : Int) = 0 → True ∧ True ∧ True ∧ True ∧ True ∧ ((↑(chg (qc (tmL l) (0 : Nat) (0 : Nat))) : Int) < 0 → True ∧ True ∧ True ∧ True ∧ True ∧ (false = true ∧ True) ∧ True) ∧ (¬(↑(chg (qc (tmL l) (0 : Nat) (0 : Nat))) : Int) < 0 → True ∧ True ∧ inR .i64 ((↑(chg (qc (tmL l) (0 : Nat) (0 : Nat))) : Int) - 0) ∧ ¬(2 : Int) = 0 ∧ True ∧ True ∧ True ∧ (¬((↑(chg (qc (tmL l) (0 : Nat) (0 : Nat))) : Int) - 0).tmod (2 : Int) = 0 → True ∧ True ∧ True ∧ (false = true ∧ True) ∧ True) ∧ (¬¬((↑(chg (qc (tmL l) (0 : Nat) (0 : Nat))) : Int) - 0).tmod (2 : Int) = 0 → True ∧ True ∧ True ∧ True ∧ True ∧ True ∧ (¬(8 : Int) = 0 → True ∧ True ∧ True ∧ ((8 : Int) = 8 → (True ∧ True) ∧ True ∧ True ∧ True ∧ (true = true ∧ True) ∧ True) ∧ (¬(8 : Int) = 8 → True ∧ True ∧ True ∧ (false = true ∧ True) ∧ True)) ∧ (¬¬(8 : Int) = 0 → True ∧ ((yesP [] ∧ ¬(plainP [] ∧ readB [] = true)) ∧ True) ∧ True ∧ True ∧ True ∧ True ∧ True ∧ True ∧ ((yesP [] ∧ ¬posP []) ∧ True) ∧ True ∧ True ∧ True ∧ True ∧ True ∧ True ∧ True ∧ True ∧ True ∧ True ∧ True ∧ (rootsE [] = rootsE (tmL l) → True ∧ True ∧ True ∧ True ∧ True ∧ ((0 : Int) = 0 → True ∧ True ∧ True ∧ True ∧ ((0 : Int) = 0 → True ∧ True ∧ True ∧ True ∧ True ∧ (true = true → (True ∧ True) ∧ True ∧ True ∧ True ∧ (true = true ∧ True) ∧ True) ∧ (true = false → True ∧ True ∧ True ∧ (false = true ∧ True) ∧ True)) ∧ (¬(0 : Int) = 0 → True ∧ True ∧ True ∧ True ∧ True ∧ (false = true ∧ True) ∧ True)) ∧ (¬(0 : Int) = 0 → True ∧ True ∧ True ∧ True ∧ True ∧ True ∧ True ∧ (false = true ∧ True) ∧ True)) ∧ (¬rootsE [] = rootsE (tmL l) → True ∧ True ∧ True ∧ True ∧ True ∧ True ∧ True ∧ True ∧ True ∧ (false = true ∧ True) ∧ True))))))) ∧ (¬rootsE (tmL l) = 0 → True ∧ True ∧ (¬(8 : Int) = 0 → True ∧ True ∧ True ∧ ((8 : Int) = 8 → (True ∧ True) ∧ True ∧ True ∧ True ∧ (true = true ∧ True) ∧ True) ∧ (¬(8 : Int) = 8 → True ∧ True ∧ True ∧ (false = true ∧ True) ∧ True)) ∧ (¬¬(8 : Int) = 0 → True ∧ ((yesP [] ∧ ¬(plainP [] ∧ readB [] = true)) ∧ True) ∧ True ∧ True ∧ True ∧ True ∧ True ∧ True ∧ ((yesP [] ∧ ¬posP []) ∧ True) ∧ True ∧ True ∧ True ∧ True ∧ True ∧ True ∧ True ∧ True ∧ True ∧ True ∧ True ∧ (rootsE [] = rootsE (tmL l) → True ∧ True ∧ True ∧ True ∧ True ∧ ((0 : Int) = 0 → True ∧ True ∧ True ∧ True ∧ ((0 : Int) = 0 → True ∧ True ∧ True ∧ True ∧ True ∧ (true = true → (True ∧ True) ∧ True ∧ True ∧ True ∧ (true = true ∧ True) ∧ True) ∧ (true = false → True ∧ True ∧ True ∧ (false = true ∧ True) ∧ True)) ∧ (¬(0 : Int) = 0 → True ∧ True ∧ True ∧ True ∧ True ∧ (false = true ∧ True) ∧ True)) ∧ (¬(0 : Int) = 0 → True ∧ True ∧ True ∧ True ∧ True ∧ True ∧ True ∧ (false = true ∧ True) ∧ True)) ∧ (¬rootsE [] = rootsE (tmL l) → True ∧ True ∧ True ∧ True ∧ True ∧ True ∧ True ∧ True ∧ True ∧ (false = true ∧ True) ∧ True)))))))) (by kernel_rfl) ?_
 simp only [zz, not_true_eq_false, not_false_eq_true, true_imp_iff, false_imp_iff, implies_true, Bool.false_eq_true, Bool.true_eq_false, reduceCtorEq, imp_false]
 repeat' first | assumption | omega | exact ht | (simp only [inR]; omega) | exact fun h => h | exact hq | (exact absurd rfl ‹_›) | intro _ | refine And.intro ?_ ?_
theorem call6 (l : List Int) (h : l.length < 1000000000000000) : GCall Tryd.prog gl 6 true [.sl I64 l] [] [.tt] [] := by
 have hp : isPoly (tmL l) := tmL_poly l
 have hy : yesP (tmL l) := ⟨by have := hp.2.1; omega, hp⟩
 by_cases hc : plainP (tmL l) ∧ readB (tmL l) = true
 · have hC : pC (tmL l) := ⟨hy, hc⟩
   by_cases hq : posP (tmL l)
   · by_cases hm : coefs (mir (tmL l))
     · exact c6CYW l h hC ⟨hy, hq⟩ hm
     · exact c6CYZ l h hC ⟨hy, hq⟩ hm
   · by_cases hm : coefs (mir (tmL l))
     · exact c6CNW l h hC ⟨hy, hq⟩ hm
     · exact c6CNZ l h hC ⟨hy, hq⟩ hm
 · have hD : pD (tmL l) := ⟨hy, hc⟩
   by_cases hq : posP (tmL l)
   · by_cases hm : coefs (mir (tmL l))
     · exact c6DYW l h hD ⟨hy, hq⟩ hm
     · exact c6DYZ l h hD ⟨hy, hq⟩ hm
   · by_cases hm : coefs (mir (tmL l))
     · exact c6DNW l h hD ⟨hy, hq⟩ hm
     · exact c6DNZ l h hD ⟨hy, hq⟩ hm
end Go.Am.Bern

/- Bern: from the laws' contracts to the given statements: what all laws share. -/
namespace Go.Proofs.YtjmfgoemdkfldaaDoor
open Go Go.ChangeShapes Go.WideShapes Go.ChangeAt Go.RowKit Go.Am Go.Am.Bern
theorem own : ownKnob Tryd.prog.godebug = none := by kernel_rfl
theorem laidOut : laidOutB Tryd.prog = true := by kernel_rfl
theorem u3 : Tryd.prog.underlying 3 = some (.int .i64) := by kernel_rfl
theorem u4 : Tryd.prog.underlying 4 = some .bool := by kernel_rfl
theorem u22 : Tryd.prog.underlying 22 = some (.slice 3) := by kernel_rfl
theorem tyOk22 : TyOk Tryd.prog 22 (.sl I64) := ⟨3, u22, u3, by kernel_rfl, by decide, of_decide_eq_true (by kernel_rfl)⟩
theorem u2 : Tryd.prog.underlying 2 = some (.int .i64) := by kernel_rfl
def laidW : List (String × DataW Unit) := [("girouette/bern.whole", Rows.laid_girouette_bern_whole)]
theorem door_met (os : Os) (args : Array Value) : laidMetH Tryd.prog laidW ((World.doorLaid Tryd.prog 400 os).forCall (fun _ _ => 0) ⟨#[], args, []⟩).memory :=
 laidMetH_of_parts3 (fuel := 8) (laidMet_of_run' 8 (by kernel_rfl) (by kernel_rfl)) (by kernel_rfl) (by kernel_rfl)
theorem reach_le {l : List Nat} (h : l.all (fun x => decide (x ≤ reachBytes)) = true) : ∀ n ∈ l, n ≤ 140737488355328 := fun n hn => by
 have := of_decide_eq_true (List.all_eq_true.mp h n hn)
 have e : reachBytes = 140737488351232 := rfl
 omega
theorem gWhole : Tryd.prog.globalNamed "girouette/bern.whole" = some 0 := by kernel_rfl
theorem tWhole : (Tryd.prog.globals[0]?).map (·.type) = some 87 := by kernel_rfl
set_option maxRecDepth 100000 in
theorem glob_of {W : World} (h : laidMetH Tryd.prog laidW W) : GlobOk gl (fun b => b < W.heap.size) W := by
 rw [MakeChecks.laidMetH_plain _ _ _ (by kernel_rfl)] at h
 obtain ⟨ps, ⟨g0, t0, cs0, f0, p0, q0, hg0, ht0, hv0, hd0, _, _⟩, _, _⟩ := h
 obtain rfl := Option.some.inj (gWhole.symm.trans hg0)
 obtain rfl := Option.some.inj (tWhole.symm.trans ht0)
 have hU : ∃ d, Tryd.prog.underlying 87 = some d ∧ dsOf d = .st [(0, 3), (1, 3)] := TI.Ok.under ti87_ok
 obtain ⟨d, hu, hd⟩ := hU
 obtain ⟨fs, rfl, hfs⟩ : ∃ fs, d = .struct fs ∧ fs.toList.map (fun f => (f.offset, f.type)) = [(0, 3), (1, 3)] := by
   cases d <;> simp [dsOf] at hd
   exact ⟨_, rfl, hd⟩
 obtain ⟨xs, n, rfl, hx, hl, hn, hel⟩ := DataW.trod_struct hu hd0
 obtain ⟨fs⟩ := fs
 match fs, hfs, hn, hel with
 | [a, b], hfs, hn, hel =>
 simp only [List.map_cons, List.map_nil, List.cons.injEq, Prod.mk.injEq] at hfs
 obtain ⟨⟨a1, a2⟩, ⟨b1, b2⟩, _⟩ := hfs
 have e0 := hel 0 a rfl
 have e1 := hel 1 b rfl
 have c3 : Tryd.prog.cellsOf 3 = 1 := by kernel_rfl
 have c87 : Tryd.prog.cellsOf 87 = 2 := by kernel_rfl
 rw [a1, a2, c3] at e0
 rw [b1, b2, c3] at e1
 rw [c87] at hl
 obtain ⟨ls⟩ := cs0
 match xs, hn, hx, ls, hl, e0, e1, hv0 with
 | [y0, y1], _, hx, [c0, c1], _, e0, e1, hv0 =>
 simp only [Rows.laid_girouette_bern_whole, List.map_cons, List.map_nil, Prod.mk.injEq, DataW.agg.injEq, List.cons.injEq] at hx
 obtain ⟨n0, k0, k1, _⟩ := DataW.trod_int u3 (show DataW.trod _ Tryd.prog W 0 _ false n 3 [c0] = some y0 from e0)
 obtain ⟨n1, l0, l1, _⟩ := DataW.trod_int u3 (show DataW.trod _ Tryd.prog W 0 _ false n 3 [c1] = some y1 from e1)
 have z0 : n0 = 0 := by rw [k1] at hx; simpa using hx.1.1.symm
 have z1 : n1 = 0 := by rw [l1] at hx; simpa using hx.1.2.1.symm
 subst z0 z1
 have w0 := World.var?_cell hg0 hv0 0
 have w1 := World.var?_cell hg0 hv0 1
 simp only [List.cons.injEq, and_true] at k0 l0
 subst k0 l0
 have w0 : W.cell? ⟨0, 0, none⟩ = some (.int .i64 0) := by simpa using w0
 have w1 : W.cell? ⟨0, 1, none⟩ = some (.int .i64 0) := by simpa using w1
 intro g p hp
 match g, hp with
 | 0, hp =>
   have hp : p = ⟨.s2 (.int .i64) (.int .i64), ((0 : Int), (0 : Int))⟩ := (Option.some.inj hp).symm
   subst hp
   refine ⟨cell_lt w0, [.int .i64 0, .int .i64 0], by simp only [CD]; exact ⟨_, _, rfl, rfl, rfl⟩, fun j hj => ?_⟩
   match j, hj with
   | 0, _ => exact w0
   | 1, _ => exact w1
end Go.Proofs.YtjmfgoemdkfldaaDoor
