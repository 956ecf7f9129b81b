/- Part B4 of the proof that the law named in the last file returns true at every input and leaves its arguments as they were; no condition of its own. -/
import Derived.Test.YtlfigncfoiofgaaB3
import Derived.Test.YtlfigncfoiofgaaA2
import Derived.Test.YtlfigncfoiofgaaRows
import Derived.WalkKit
import Derived.ProofKit
import Derived.OpenShut
import Derived.SizedLaws
import Derived.ChangeOld
import Derived.Below
import Derived.Stop.Joined
set_option linter.unusedSimpArgs false
set_option linter.unusedVariables false
/- Orders: a clash, as it is found. -/
namespace Go.Am.Or
open Go Go.Am Go.Proofs
/-- Each arrow of the queue was reached from one ahead of it. -/
def okB (s : MA × LP) : Prop := ∀ k, k < s.2.length → ∃ j, mGet AR s.1 (s.2.getD k (0, 0)) = some (s.2.getD j (0, 0)) ∧ (j < k ∨ (k = 0 ∧ j = 0))
theorem mGet_put_eq {M : MA} {x y z : PA} : mGet AR (mPut AR M x z) y = if y = x then some z else mGet AR M y := by
 induction M with
 | nil =>
   rw [mPut, mGet_if]
 | cons p M ih =>
   rw [mPut_if]
   split
   · rename_i h
     rw [mGet_if, mGet_if, ← h]
     split
     · rfl
     · rfl
   · rename_i h
     rw [mGet_if, mGet_if, ih]
     by_cases e : y = x
     · rw [if_pos e, if_pos e, if_neg (by rw [e]; exact h)]
     · rw [if_neg e, if_neg e]
theorem getD_app {l m : LP} {k : Nat} (h : k < l.length) : (l ++ m).getD k (0, 0) = l.getD k (0, 0) := by
 rw [List.getD_eq_getElem?_getD, List.getD_eq_getElem?_getD, List.getElem?_append_left h]
theorem getD_last {l : LP} {y : PA} : (l ++ [y]).getD l.length (0, 0) = y := by
 rw [List.getD_eq_getElem?_getD]; simp
theorem stp_bf {n i : Nat} {s : MA × LP} {y : PA} (ho : okQ n s) (hi : i < s.2.length) (h : okB s) : okB (stp i s y) := by
 unfold stp
 by_cases hm : (mGet AR s.1 y).isSome = true
 · rw [if_pos hm]; exact h
 · rw [if_neg hm]
   have hn : ¬ y ∈ s.2 := fun h1 => hm ((ho.dom y).mpr h1)
   intro k hk
   simp only [List.length_append, List.length_singleton] at hk
   by_cases e : k = s.2.length
   · subst e
     refine ⟨i, ?_, .inl hi⟩
     show mGet AR (mPut AR s.1 y _) ((s.2 ++ [y]).getD s.2.length (0, 0)) = some ((s.2 ++ [y]).getD i (0, 0))
     rw [getD_last, mGet_put_eq, if_pos rfl, getD_app hi]
   · have hk : k < s.2.length := by omega
     obtain ⟨j, h1, h2⟩ := h k hk
     refine ⟨j, ?_, h2⟩
     show mGet AR (mPut AR s.1 y _) ((s.2 ++ [y]).getD k (0, 0)) = some ((s.2 ++ [y]).getD j (0, 0))
     rw [getD_app hk, getD_app (by omega), mGet_put_eq, if_neg, h1]
     exact fun e => hn (by rw [← e]; exact mem_getD hk)
theorem fold_bf {n i : Nat} : ∀ {l : LP} {s : MA × LP}, okQ n s → i < s.2.length → (∀ y, y ∈ l → (0 ≤ y.1 ∧ y.1 < n) ∧ (0 ≤ y.2 ∧ y.2 < n)) → okB s → okB (l.foldl (stp i) s)
 | [], _, _, _, _, h => h
 | y :: l, s, ho, hi, hl, h => fold_bf (l := l) (stp_ok ho (hl y (by simp))) (by have := stp_len i s y; omega) (fun z hz => hl z (by simp [hz])) (stp_bf ho hi h)
theorem rst_bf {f : RF} {n : Nat} {s : MA × LP} (ho : okQ n s) (h : okB s) : ∀ k, okB (rst f n s k)
 | 0 => h
 | k + 1 => by
   have ih := rst_bf (f := f) ho h k
   have hk := rst_ok (f := f) ho k
   rw [rst]
   split
   · rename_i hlt
     have hr := hk.rg _ (mem_getD (d := (0, 0)) hlt)
     exact fold_bf hk hlt (fcl_rg (by omega) (by omega) (Nat.le_refl n)) ih
   · exact ih
theorem rs0_bf (a b : Int) : okB (rs0 a b) := fun k hk => by
 have hk : k < 1 := hk
 refine ⟨0, ?_, .inr ⟨by omega, rfl⟩⟩
 rw [show k = 0 by omega]
 show mGet AR [((a, b), (a, b))] (a, b) = some (a, b)
 rw [mGet_if, if_pos rfl]
theorem rch_bf {f : RF} {n : Nat} {a b : Int} (ha : 0 ≤ a ∧ a < n) (hb : 0 ≤ b ∧ b < n) : okB (rch f n a b) := rst_bf (rs0_ok ha hb) (rs0_bf a b) _
theorem fold_hd {i : Nat} : ∀ {l : LP} {s : MA × LP}, 0 < s.2.length → (l.foldl (stp i) s).2.getD 0 (0, 0) = s.2.getD 0 (0, 0)
 | [], _, _ => rfl
 | y :: l, s, h => by
   show ((l.foldl (stp i) (stp i s y))).2.getD 0 (0, 0) = _
   have h1 := stp_len i s y
   rw [fold_hd (l := l) (by omega)]
   unfold stp
   split
   · rfl
   · exact getD_app h
theorem rst_hd {f : RF} {n : Nat} {s : MA × LP} (h : 0 < s.2.length) : ∀ k, (rst f n s k).2.getD 0 (0, 0) = s.2.getD 0 (0, 0) ∧ 0 < (rst f n s k).2.length
 | 0 => ⟨rfl, h⟩
 | k + 1 => by
   obtain ⟨h1, h2⟩ := rst_hd (f := f) (n := n) h k
   have h3 := rst_len (f := f) (n := n) (s := s) k
   refine ⟨?_, by omega⟩
   rw [rst]
   split
   · rw [fold_hd h2, h1]
   · exact h1
theorem rch_hd {f : RF} {n : Nat} {a b : Int} : (rch f n a b).2.getD 0 (0, 0) = (a, b) := (rst_hd (s := rs0 a b) (by simp [rs0]) 49).1
def bef (M : MA) (y : PA) : PA := (mGet AR M y).getD (0, 0)
def wyS (M : MA) (x : PA) : Nat → PA → LP
 | 0, _ => []
 | d + 1, y => if y = x then [] else bef M y :: wyS M x d (bef M y)
def tn (x : PA) : PA := (x.2, x.1)
def wyL (M : MA) (x : PA) : LP := (tn x :: wyS M x 60 (tn x)).reverse
def hit (f : RF) (n : Nat) (x : PA) : Bool := (mGet AR (rch f n x.1 x.2).1 (tn x)).isSome
def bsK (f : RF) (n : Nat) (L : LP) : Nat → LP
 | 0 => []
 | k + 1 => if hit f n (L.getD k (0, 0)) = true ∧ (bsK f n L k = [] ∨ (wyL (rch f n (L.getD k (0, 0)).1 (L.getD k (0, 0)).2).1 (L.getD k (0, 0))).length < (bsK f n L k).length) then wyL (rch f n (L.getD k (0, 0)).1 (L.getD k (0, 0)).2).1 (L.getD k (0, 0)) else bsK f n L k
theorem wyS_len (M : MA) (x : PA) : ∀ d y, (wyS M x d y).length ≤ d
 | 0, _ => Nat.le_refl _
 | d + 1, y => by
   rw [wyS]; split
   · exact Nat.zero_le _
   · have := wyS_len M x d (bef M y)
     simp only [List.length_cons]; omega
theorem wyL_len (M : MA) (x : PA) : 1 ≤ (wyL M x).length ∧ (wyL M x).length ≤ 61 := by
 have := wyS_len M x 60 (tn x)
 unfold wyL
 rw [List.length_reverse, List.length_cons]
 omega
theorem bsK_len (f : RF) (n : Nat) (L : LP) : ∀ k, (bsK f n L k).length ≤ 61
 | 0 => Nat.zero_le _
 | k + 1 => by
   rw [bsK]; split
   · exact (wyL_len _ _).2
   · exact bsK_len f n L k
noncomputable abbrev X25 : Cy := X [e45, e62, e63, e64, e65, e66]
noncomputable def L25_0 : Code := lp (bodyOf Try.f25) 0
noncomputable def L25_2 : Code := lp (bodyOf Try.f25) 2
noncomputable def L25_4 : Code := lp (bodyOf Try.f25) 4
/-- The loop back, the best one being there or not. -/
def sb25 (n : Nat) (f : RF) (L : LP) (k : Nat) (x : PA) (M : MA) (B : LP) (w : LP) : St := match B with
 | [] => ⟨(dd 7 ++ .ptr 0 0 [] :: .dead :: nl :: .dead :: .ptr 1 0 [] :: .dead :: .mp 2 :: dd 2 ++ .own 3 0 :: dd 13 ++ .sl AR L :: .int .i64 L.length :: .int .i64 k :: dd 68), [grO n f, .bx (ar x.1 x.2), .mo AR AR M, .sc 0 91 AR w]⟩
 | y :: B => ⟨(dd 7 ++ .ptr 0 0 [] :: .dead :: .own 1 0 :: .dead :: .ptr 2 0 [] :: .dead :: .mp 3 :: dd 2 ++ .own 4 0 :: dd 13 ++ .sl AR L :: .int .i64 L.length :: .int .i64 k :: dd 68), [grO n f, .sc 0 91 AR (y :: B), .bx (ar x.1 x.2), .mo AR AR M, .sc 0 91 AR w]⟩
structure ib25 (M : MA) (Q : LP) (x : PA) (W : LP) (z : Nat × PA × LP) : Prop where
 e : z.2.2 ++ [z.2.1] ++ wyS M x z.1 z.2.1 = W
 i : ∃ i, i < z.1 ∧ i < Q.length ∧ Q.getD i (0, 0) = z.2.1
 l : z.2.2.length + z.1 ≤ 100
def xb25 (n : Nat) (f : RF) (L : LP) (k : Nat) (x : PA) (M : MA) (B W : LP) : List (List Nat × Ex) := [([7, 9, 16, 30, 31, 32], ⟨2, Unit, fun _ => True, fun _ => match B with
 | [] => ⟨(dd 7 ++ .ptr 0 0 [] :: .dead :: nl :: dd 6 ++ .own 1 0 :: dd 13 ++ .sl AR L :: .int .i64 L.length :: .int .i64 k :: dd 68), [grO n f, .sc 0 91 AR W]⟩
 | y :: B => ⟨(dd 7 ++ .ptr 0 0 [] :: .dead :: .own 1 0 :: dd 6 ++ .own 2 0 :: dd 13 ++ .sl AR L :: .int .i64 L.length :: .int .i64 k :: dd 68), [grO n f, .sc 0 91 AR (y :: B), .sc 0 91 AR W]⟩⟩)]
def hb25 (n : Nat) (f : RF) (L : LP) (k : Nat) (x : PA) (M : MA) (Q B W : LP) : Hint := ⟨chk 0 [7, 9, 11, 13, 16, 30, 31, 32] (ib25 M Q x W) (fun z => sb25 n f L k x M B (z.2.2 ++ [z.2.1])), (xb25 n f L k x M B W).map (·.2)⟩
structure pb25 (M : MA) (Q : LP) (x : PA) : Prop where
 bf : okB (M, Q)
 hd : Q.getD 0 (0, 0) = x
theorem last25 {w : LP} {y : PA} : List.getD (w ++ [y]) (((w ++ [y]).length : Int) - 1).toNat (0, 0) = y := by
 rw [show (((w ++ [y]).length : Int) - 1).toNat = w.length by simp]
 exact getD_last
theorem way25 {M : MA} {Q : LP} {x : PA} {W : LP} {d : Nat} {y : PA} {w : LP} (hp : pb25 M Q x) (hz : ib25 M Q x W (d, y, w)) :
   inR .i64 (((w ++ [y]).length : Int) - 1) ∧ idxPre (((w ++ [y]).length : Int) - 1) (w ++ [y]).length ∧
     (¬ y = x → inR .i64 (((w ++ [y]).length : Int) - 1) ∧ idxPre (((w ++ [y]).length : Int) - 1) (w ++ [y]).length ∧ sumPre (w ++ [y]).length [bef M y].length 16 ∧ ∃ z : Nat × PA × LP, (ib25 M Q x W z ∧ z.1 < d) ∧ w ++ [y] ++ [bef M y] = z.2.2 ++ [z.2.1]) ∧ (¬¬ y = x → w ++ [y] = W) := by
 obtain ⟨z1, ⟨i, z2, z3, z4⟩, z5⟩ := hz
 simp only at z1 z2 z4 z5
 obtain ⟨j, rfl⟩ : ∃ j, d = j + 1 := ⟨d - 1, by omega⟩
 have g1 : inR .i64 (((w ++ [y]).length : Int) - 1) := by simp only [inR, List.length_append, List.length_singleton]; omega
 have g2 : idxPre (((w ++ [y]).length : Int) - 1) (w ++ [y]).length := by simp only [idxPre, List.length_append, List.length_singleton]; omega
 refine ⟨g1, g2, fun h => ⟨g1, g2, by simp only [sumPre, List.length_append, List.length_singleton]; omega, (j, bef M y, w ++ [y]), ⟨⟨?_, ?_, ?_⟩, Nat.lt_succ_self j⟩, rfl⟩, fun h => ?_⟩
 · simp only
   rw [wyS, if_neg h] at z1
   rw [← z1]; simp
 · obtain ⟨m, h1, h2⟩ := hp.bf i z3
   simp only at h1 h2
   have hb : bef M y = Q.getD m (0, 0) := by unfold bef; rw [← z4, h1]; try rfl
   rcases h2 with h2 | ⟨h2, _⟩
   · exact ⟨m, (show m < j by omega), by omega, hb.symm⟩
   · rw [h2, hp.hd] at z4
     exact absurd z4.symm h
 · simp only [List.length_append, List.length_singleton]; omega
 · rw [wyS, if_pos (by simpa using h), List.append_nil] at z1
   exact z1
theorem loop25bN (n : Nat) (f : RF) (L : LP) (k : Nat) (x : PA) (M : MA) (Q W : LP) (hp : pb25 M Q x) (R : Exit → St → Prop) : LoopOK X25 L25_2 (hb25 n f L k x M Q [] W) R := by
 refine loop_ok (X_ok _) (H := fun _ _ => none) [7, 9, 11, 13, 16, 30, 31, 32] (ib25 M Q x W) (fun z => sb25 n f L k x M [] (z.2.2 ++ [z.2.1])) (fun z => z.1) (xb25 n f L k x M [] W) 200 fun (z : Nat × PA × LP) hz => ?_
 obtain ⟨d, y, w⟩ := z
 refine of_eq (q := (fun (i : Nat) => (fun (g : Prop) => (fun (h : Prop) => (fun (e : Prop) => (fun (c : Int) => (fun (a : Int × Int) => (fun (j : Prop) => (fun (b : Int × Int) => g ∧ g ∧ g ∧ inR .i64 c ∧ idxPre c i ∧ g ∧ g ∧ g ∧ (j → g ∧ g ∧ g ∧ g ∧ g ∧ inR .i64 c ∧ idxPre c i ∧ g ∧ g ∧ g ∧ sumPre (List.length (w ++ [y])) [(b.fst, b.snd)].length (nat_lit 16) ∧ g ∧ ∃ (y_1 : Nat × PA × LP), (ib25 M Q x W y_1 ∧ y_1.fst < d) ∧ (g ∧ g ∧ e) ∧ h ∧ (x.fst = x.fst ∧ x.snd = x.snd ∧ g) ∧ M = M ∧ w ++ [y] ++ [(b.fst, b.snd)] = y_1.snd.snd ++ [y_1.snd.fst] ∧ g) ∧ (¬j → ∃ (y_1 : Unit), g ∧ e ∧ h ∧ w ++ [y] = W ∧ g)) ((mGet AR M (a.fst, a.snd)).getD ((0 : Int), (0 : Int)))) (¬(a.fst, a.snd) = (x.fst, x.snd))) (List.getD (w ++ [y]) c.toNat ((0 : Int), (0 : Int)))) ((i : Int) - 1)) (g ∧ g ∧ g ∧ L = L ∧ (↑(List.length L) : Int) = (↑(List.length L) : Int) ∧ (k : Int) = (k : Int) ∧ g)) ((n : Int) = (n : Int) ∧ mkR f = mkR f ∧ g)) (True)) (List.length (w ++ [y]))) (by kernel_rfl) ?_
 simp only [zz]
 rw [last25]
 exact way25 hp hz
theorem loop25bO (n : Nat) (f : RF) (L : LP) (k : Nat) (x : PA) (M : MA) (Q W : LP) (y0 : PA) (B : LP) (hp : pb25 M Q x) (R : Exit → St → Prop) : LoopOK X25 L25_2 (hb25 n f L k x M Q (y0 :: B) W) R := by
 refine loop_ok (X_ok _) (H := fun _ _ => none) [7, 9, 11, 13, 16, 30, 31, 32] (ib25 M Q x W) (fun z => sb25 n f L k x M (y0 :: B) (z.2.2 ++ [z.2.1])) (fun z => z.1) (xb25 n f L k x M (y0 :: B) W) 200 fun (z : Nat × PA × LP) hz => ?_
 obtain ⟨d, y, w⟩ := z
 refine of_eq (q := (fun (i : Nat) => (fun (g : Prop) => (fun (h : Prop) => (fun (e : Prop) => (fun (c : Int) => (fun (a : Int × Int) => (fun (j : Prop) => (fun (b : Int × Int) => g ∧ g ∧ g ∧ inR .i64 c ∧ idxPre c i ∧ g ∧ g ∧ g ∧ (j → g ∧ g ∧ g ∧ g ∧ g ∧ inR .i64 c ∧ idxPre c i ∧ g ∧ g ∧ g ∧ sumPre (List.length (w ++ [y])) [(b.fst, b.snd)].length (nat_lit 16) ∧ g ∧ ∃ (y_1 : Nat × PA × LP), (ib25 M Q x W y_1 ∧ y_1.fst < d) ∧ (g ∧ g ∧ e) ∧ h ∧ y0 :: B = y0 :: B ∧ (x.fst = x.fst ∧ x.snd = x.snd ∧ g) ∧ M = M ∧ w ++ [y] ++ [(b.fst, b.snd)] = y_1.snd.snd ++ [y_1.snd.fst] ∧ g) ∧ (¬j → ∃ (y_1 : Unit), g ∧ e ∧ h ∧ y0 :: B = y0 :: B ∧ w ++ [y] = W ∧ g)) ((mGet AR M (a.fst, a.snd)).getD ((0 : Int), (0 : Int)))) (¬(a.fst, a.snd) = (x.fst, x.snd))) (List.getD (w ++ [y]) c.toNat ((0 : Int), (0 : Int)))) ((i : Int) - 1)) (g ∧ g ∧ g ∧ L = L ∧ (↑(List.length L) : Int) = (↑(List.length L) : Int) ∧ (k : Int) = (k : Int) ∧ g)) ((n : Int) = (n : Int) ∧ mkR f = mkR f ∧ g)) (True)) (List.length (w ++ [y]))) (by kernel_rfl) ?_
 simp only [zz]
 rw [last25]
 exact way25 hp hz
def so25 (n : Nat) (f : RF) (L : LP) (B : LP) (k : Nat) : St := match B with
 | [] => ⟨(dd 7 ++ .ptr 0 0 [] :: .dead :: nl :: dd 20 ++ .sl AR L :: .int .i64 L.length :: .int .i64 k :: dd 68), [grO n f]⟩
 | y :: B => ⟨(dd 7 ++ .ptr 0 0 [] :: .dead :: .own 1 0 :: dd 20 ++ .sl AR L :: .int .i64 L.length :: .int .i64 k :: dd 68), [grO n f, .sc 0 91 AR (y :: B)]⟩
def mOf (f : RF) (n : Nat) (x : PA) : MA × LP := rch f n x.1 x.2
def hs25 (n : Nat) (f : RF) (L : LP) (B : LP) (k : Nat) : Hint := hb25 n f L k (L.getD k (0, 0)) (mOf f n (L.getD k (0, 0))).1 (mOf f n (L.getD k (0, 0))).2 B (wyL (mOf f n (L.getD k (0, 0))).1 (L.getD k (0, 0))).reverse
def fa25 (n : Nat) (f : RF) (L : LP) : List Fam := [⟨Nat, fun k => k ≤ L.length ∧ bsK f n L k = [], fun k => so25 n f L [] k, fun k => L.length - k, fun k _ => some (hs25 n f L [] k)⟩,
 ⟨Nat × PA × LP, fun x => x.1 ≤ L.length ∧ bsK f n L x.1 = x.2.1 :: x.2.2, fun x => so25 n f L (x.2.1 :: x.2.2) x.1, fun x => L.length - x.1, fun x _ => some (hs25 n f L (x.2.1 :: x.2.2) x.1)⟩]
def xa25 (n : Nat) (f : RF) (L : LP) : List (List Nat × Ex) := [([9], ⟨0, Unit, fun _ => bsK f n L L.length = [], fun _ => ⟨(dd 9 ++ nl :: dd 91), []⟩⟩), ([9], ⟨0, PA × LP, fun x => bsK f n L L.length = x.1 :: x.2, fun x => ⟨(dd 9 ++ .own 0 0 :: dd 91), [.sc 0 91 AR (x.1 :: x.2)]⟩⟩)]
def ha25 (n : Nat) (f : RF) (L : LP) : Hint := ⟨chks 0 [7, 9, 30, 31, 32] (fa25 n f L), (xa25 n f L).map (·.2)⟩
theorem nt1 {b : Bool} (h : (!b) = true) : b = false := by cases b <;> simp_all
theorem nt0 {b : Bool} (h : (!b) = false) : b = true := by cases b <;> simp_all
structure fc25 (n : Nat) (f : RF) (x : PA) : Prop where
 ok : okX (((n : Int), mkR f), x.1, x.2)
 eq : rchx (((n : Int), mkR f), x.1, x.2) = mOf f n x
 pb : pb25 (mOf f n x).1 (mOf f n x).2 x
 ib : hit f n x = true → ib25 (mOf f n x).1 (mOf f n x).2 x (wyL (mOf f n x).1 x).reverse (60, tn x, [])
theorem fc25_of {n : Nat} {f : RF} (n1 : 1 ≤ n) (hn : n ≤ 7) {x : PA} (hx : x ∈ L62 n f) : fc25 n f x := by
 obtain ⟨a, b, h1, h2, h3, h4⟩ := (L62_mem hn).mp hx
 have ha : 0 ≤ x.1 ∧ x.1 < n := by rw [h1]; simp only; omega
 have hb : 0 ≤ x.2 ∧ x.2 < n := by rw [h1]; simp only; omega
 have ho := rch_ok (f := f) ha hb
 have hbf := rch_bf (f := f) ha hb
 have hhd := rch_hd (f := f) (n := n) (a := x.1) (b := x.2)
 refine ⟨⟨okG_mk n1 hn f, ha, hb⟩, ?_, ⟨?_, ?_⟩, fun hh => ⟨?_, ?_, by show 0 + 60 ≤ 100; omega⟩⟩
 · unfold rchx mOf
   exact rch_ext hn rgm ha hb
 · unfold mOf
   generalize rch f n x.1 x.2 = r at hbf ⊢
   exact hbf
 · unfold mOf
   generalize rch f n x.1 x.2 = r at hhd ⊢
   exact hhd
 · unfold wyL
   rw [List.reverse_reverse]; try rfl
 · have hm : tn x ∈ (mOf f n x).2 := (ho.dom _).mp hh
   obtain ⟨i, hi, e⟩ := List.getElem_of_mem hm
   have hl := ho.len hn
   exact ⟨i, by show i < 60; unfold mOf at hi; omega, hi, by rw [getD_lt hi, e]⟩
theorem bsK_hit {f : RF} {n : Nat} {L : LP} {k : Nat} (h : hit f n (L.getD k (0, 0)) = true) (h2 : bsK f n L k = [] ∨ (wyL (mOf f n (L.getD k (0, 0))).1 (L.getD k (0, 0))).length < (bsK f n L k).length) : bsK f n L (k + 1) = wyL (mOf f n (L.getD k (0, 0))).1 (L.getD k (0, 0)) := by
 rw [bsK, if_pos ⟨h, h2⟩]; try rfl
theorem bsK_no {f : RF} {n : Nat} {L : LP} {k : Nat} (h : hit f n (L.getD k (0, 0)) = false ∨ ¬ (bsK f n L k = [] ∨ (wyL (mOf f n (L.getD k (0, 0))).1 (L.getD k (0, 0))).length < (bsK f n L k).length)) : bsK f n L (k + 1) = bsK f n L k := by
 rw [bsK, if_neg]
 rintro ⟨h1, h2⟩
 rcases h with h | h
 · rw [h1] at h; cases h
 · exact h h2
theorem wyL_cons (M : MA) (x : PA) : ∃ y B, wyL M x = y :: B := by
 have := (wyL_len M x).1
 match h : wyL M x, this with
 | y :: B, _ => exact ⟨y, B, rfl⟩
theorem loop25a (n : Nat) (f : RF) (n1 : 1 ≤ n) (hn : n ≤ 7) (R : Exit → St → Prop) : LoopOK X25 L25_0 (ha25 n f (L62 n f)) R := by
 have hll := L62_len (n := n) (f := f)
 refine loop_fams (X_ok _) [7, 9, 30, 31, 32] (fa25 n f (L62 n f)) (xa25 n f (L62 n f)) 200 ⟨fun (k : Nat) hk => ?_, fun (x : Nat × PA × LP) hx => ?_, trivial⟩
 · have hL : pb25 (mOf f n ((L62 n f).getD k (0, 0))).1 (mOf f n ((L62 n f).getD k (0, 0))).2 ((L62 n f).getD k (0, 0)) → LoopOK X25 L25_2 (hs25 n f (L62 n f) [] k) (bodyR 0 (xa25 n f (L62 n f)) R) := fun hp => loop25bN n f (L62 n f) k _ _ _ _ hp _
   refine of_eq (q := (fun (o : Int) => (fun (l : Int) => (fun (h : Prop) => (fun (t : Prop) => (fun (d : Prop) => (fun (b : Int × Int) => (fun (a : LP) => (fun (m : Int × Int) => (fun (q : MA) => (fun (g : Int × Int) => (fun (s : Int) => (fun (r : Int) => (fun (j : MA) => (fun (p : Bool) => (fun (e : Nat) => (fun (i : Int) => (fun (c : List (Int × Int)) => h ∧ (o < i → idxPre o (List.length a) ∧ h ∧ h ∧ h ∧ h ∧ h ∧ ((okX (((n : Int), mkR f), s, r) ∧ (h ∧ (s = s ∧ r = r ∧ h) ∧ h) ∧ d ∧ h) ∧ t) ∧ h ∧ h ∧ h ∧ h ∧ h ∧ h ∧ h ∧ t ∧ h ∧ h ∧ h ∧ h ∧ h ∧ h ∧ h ∧ h ∧ h ∧ (p = true → inR .i64 l ∧ h ∧ ((∃ (y : Nat), ((y ≤ e ∧ bsK f n a y = []) ∧ e - y < e - k) ∧ (h ∧ h ∧ a = a ∧ i = i ∧ l = (y : Int) ∧ h) ∧ d ∧ h) ∨ ∃ (y : Nat × PA × LP), ((y.fst ≤ e ∧ bsK f n a y.fst = y.snd.fst :: y.snd.snd) ∧ e - y.fst < e - k) ∧ (h ∧ False ∧ a = a ∧ i = i ∧ l = (y.fst : Int) ∧ h) ∧ d ∧ False)) ∧ (p = false → h ∧ t ∧ h ∧ h ∧ LoopOK X25 L25_2 (hs25 n f a [] k) (bodyR (0 : Nat) (xa25 n f a) R) ∧ (∃ (y : Nat × PA × LP), ib25 q (mOf f n m).snd m c y ∧ (h ∧ h ∧ h ∧ h ∧ h ∧ a = a ∧ i = i ∧ o = o ∧ h) ∧ d ∧ (s = m.fst ∧ r = m.snd ∧ h) ∧ j = q ∧ [(r, s)] = y.snd.snd ++ [y.snd.fst] ∧ h) ∧ (∀ (y : Unit), h → h ∧ ((c.length < 1000000 ∧ t ∧ c = c ∧ h) ∧ c.reverse.length = c.length ∧ h) ∧ h ∧ h ∧ h ∧ h ∧ h ∧ h ∧ inR .i64 l ∧ h ∧ ((∃ (y : Nat), ((y ≤ e ∧ bsK f n a y = []) ∧ e - y < e - k) ∧ (h ∧ False ∧ a = a ∧ i = i ∧ l = (y : Int) ∧ h) ∧ d ∧ h) ∨ ∃ (y : Nat × PA × LP), ((y.fst ≤ e ∧ bsK f n a y.fst = y.snd.fst :: y.snd.snd) ∧ e - y.fst < e - k) ∧ (h ∧ h ∧ a = a ∧ i = i ∧ l = (y.fst : Int) ∧ h) ∧ d ∧ c.reverse = y.snd.fst :: y.snd.snd ∧ h)) ∧ h)) ∧ (¬o < i → (∃ (y : Unit), bsK f n a e = [] ∧ t ∧ h) ∨ ∃ (y : PA × LP), bsK f n a e = y.fst :: y.snd ∧ (False ∧ h) ∧ False)) (List.reverse (wyL q m))) ((e : Int))) (List.length a)) (!(mGet AR j (r, s)).isSome)) ((rchx (((n : Int), mkR f), s, r)).fst)) (g.snd)) (g.fst)) (List.getD a k b)) ((mOf f n m).fst)) (List.getD a k b)) (L62 n f)) (((0 : Int), (0 : Int)))) ((n : Int) = (n : Int) ∧ mkR f = mkR f ∧ h)) (h ∧ h)) (True)) (o + 1)) ((k : Int))) (by kernel_rfl) ?_
   simp only [zz]
   obtain ⟨k1, k2⟩ := hk
   refine ⟨fun h1 => ?_, fun h1 => by rwa [show k = (L62 n f).length by omega] at k2⟩
   have h1 : k < (L62 n f).length := by omega
   have F := fc25_of n1 hn (mem_getD (d := (0, 0)) h1)
   have hb := bsK_hit (f := f) (n := n) (L := L62 n f) (k := k)
   have hno := bsK_no (f := f) (n := n) (L := L62 n f) (k := k)
   have hw := wyL_len (mOf f n ((L62 n f).getD k (0, 0))).1 ((L62 n f).getD k (0, 0))
   obtain ⟨y, B, hy⟩ := wyL_cons (mOf f n ((L62 n f).getD k (0, 0))).1 ((L62 n f).getD k (0, 0))
   rw [F.eq]
   refine ⟨idx_nat h1, F.ok, fun h => ⟨in1 (by omega), k + 1, ⟨⟨by omega, ?_⟩, by omega⟩, by omega⟩, fun h => ?_⟩
   · rw [hno (.inl (nt1 h))]; exact k2
   · have hh : hit f n ((L62 n f).getD k (0, 0)) = true := nt0 h
     refine ⟨hL F.pb, ⟨_, F.ib hh, rfl, rfl⟩, fun _ _ => ⟨⟨by rw [List.length_reverse]; omega, by simp⟩, in1 (by omega), (k + 1, y, B), ⟨⟨by show k + 1 ≤ _; omega, ?_⟩, by show _ - (k + 1) < _; omega⟩, by show _ = ((k + 1 : Nat) : Int); omega, ?_⟩⟩
     · exact (hb hh (.inl k2)).trans hy
     · rw [List.reverse_reverse]; exact hy
 · have hL : pb25 (mOf f n ((L62 n f).getD x.1 (0, 0))).1 (mOf f n ((L62 n f).getD x.1 (0, 0))).2 ((L62 n f).getD x.1 (0, 0)) → LoopOK X25 L25_2 (hs25 n f (L62 n f) (x.2.1 :: x.2.2) x.1) (bodyR 0 (xa25 n f (L62 n f)) R) := fun hp => loop25bO n f (L62 n f) x.1 _ _ _ _ _ _ hp _
   refine of_eq (q := (fun (u : Nat) => (fun (p : List (Int × Int)) => (fun (k : Int) => (fun (q : Int) => (fun (i : Prop) => (fun (w : Prop) => (fun (e : Prop) => (fun (a : LP) => (fun (h : Int × Int) => (fun (s : MA) => (fun (g : Nat) => (fun (m : Int) => (fun (j : Prop) => (fun (d : Int × Int) => (fun (v : Int) => (fun (t : Int) => (fun (l : MA) => (fun (r : Bool) => (fun (c : Prop) => (fun (b : List (Int × Int)) => (fun (o : Prop) => i ∧ (k < m → idxPre k (List.length a) ∧ i ∧ i ∧ i ∧ i ∧ i ∧ ((okX (((n : Int), mkR f), v, t) ∧ (i ∧ (v = v ∧ t = t ∧ i) ∧ i) ∧ e ∧ i) ∧ w) ∧ i ∧ i ∧ i ∧ i ∧ i ∧ i ∧ i ∧ w ∧ i ∧ i ∧ i ∧ i ∧ i ∧ i ∧ i ∧ i ∧ i ∧ (r = true → c) ∧ (r = false → i ∧ w ∧ i ∧ i ∧ LoopOK X25 L25_2 (hs25 n f a (x.snd.fst :: x.snd.snd) u) (bodyR (0 : Nat) (xa25 n f a) R) ∧ (∃ (y : Nat × PA × LP), ib25 s (mOf f n h).snd h b y ∧ (i ∧ i ∧ i ∧ i ∧ i ∧ a = a ∧ m = m ∧ k = k ∧ i) ∧ e ∧ p = p ∧ (v = h.fst ∧ t = h.snd ∧ i) ∧ l = s ∧ [(t, v)] = y.snd.snd ++ [y.snd.fst] ∧ i) ∧ (∀ (y : Unit), i → i ∧ ((b.length < 1000000 ∧ w ∧ b = b ∧ i) ∧ b.reverse.length = b.length ∧ i) ∧ i ∧ i ∧ i ∧ i ∧ i ∧ i ∧ i ∧ i ∧ i ∧ (o → i ∧ i ∧ inR .i64 q ∧ i ∧ (j ∨ ∃ (y : Nat × PA × LP), ((y.fst ≤ g ∧ bsK f n a y.fst = y.snd.fst :: y.snd.snd) ∧ g - y.fst < g - u) ∧ (i ∧ i ∧ a = a ∧ m = m ∧ q = (y.fst : Int) ∧ i) ∧ e ∧ b.reverse = y.snd.fst :: y.snd.snd ∧ i)) ∧ (¬o → c)) ∧ i)) ∧ (¬k < m → (∃ (y : Unit), bsK f n a g = [] ∧ (False ∧ i) ∧ i) ∨ ∃ (y : PA × LP), bsK f n a g = y.fst :: y.snd ∧ w ∧ p = y.fst :: y.snd ∧ i)) ((b.reverse.length : Int) < (↑(List.length x.snd.snd) : Int) + 1)) (List.reverse (wyL s h))) (inR .i64 q ∧ i ∧ (j ∨ ∃ (y : Nat × PA × LP), ((y.fst ≤ g ∧ bsK f n a y.fst = y.snd.fst :: y.snd.snd) ∧ g - y.fst < g - u) ∧ (i ∧ i ∧ a = a ∧ m = m ∧ q = (y.fst : Int) ∧ i) ∧ e ∧ p = y.snd.fst :: y.snd.snd ∧ i))) (!(mGet AR l (t, v)).isSome)) ((rchx (((n : Int), mkR f), v, t)).fst)) (d.snd)) (d.fst)) (List.getD a u ((0 : Int), (0 : Int)))) (∃ (y : Nat), ((y ≤ g ∧ bsK f n a y = []) ∧ g - y < g - u) ∧ (i ∧ False ∧ a = a ∧ m = m ∧ q = (y : Int) ∧ i) ∧ e ∧ i)) ((g : Int))) (List.length a)) ((mOf f n h).fst)) (List.getD a u ((0 : Int), (0 : Int)))) (L62 n f)) ((n : Int) = (n : Int) ∧ mkR f = mkR f ∧ i)) (i ∧ i)) (True)) (k + 1)) ((u : Int))) (x.snd.fst :: x.snd.snd)) (x.fst)) (by kernel_rfl) ?_
   simp only [zz]
   obtain ⟨k, y0, B0⟩ := x
   obtain ⟨k1, k2⟩ := hx
   simp only at k1 k2 ⊢
   refine ⟨fun h1 => ?_, fun h1 => ⟨(y0, B0), by rwa [show k = (L62 n f).length by omega] at k2, rfl⟩⟩
   have h1 : k < (L62 n f).length := by omega
   have F := fc25_of n1 hn (mem_getD (d := (0, 0)) h1)
   have hb := bsK_hit (f := f) (n := n) (L := L62 n f) (k := k)
   have hno := bsK_no (f := f) (n := n) (L := L62 n f) (k := k)
   have hw := wyL_len (mOf f n ((L62 n f).getD k (0, 0))).1 ((L62 n f).getD k (0, 0))
   obtain ⟨y, B, hy⟩ := wyL_cons (mOf f n ((L62 n f).getD k (0, 0))).1 ((L62 n f).getD k (0, 0))
   have keep : (hit f n ((L62 n f).getD k (0, 0)) = false ∨ ¬ (bsK f n (L62 n f) k = [] ∨ (wyL (mOf f n ((L62 n f).getD k (0, 0))).1 ((L62 n f).getD k (0, 0))).length < (bsK f n (L62 n f) k).length)) → inR .i64 ((k : Int) + 1) ∧ ∃ y : Nat × PA × LP, ((y.1 ≤ (L62 n f).length ∧ bsK f n (L62 n f) y.1 = y.2.1 :: y.2.2) ∧ (L62 n f).length - y.1 < (L62 n f).length - k) ∧ (k : Int) + 1 = (y.1 : Int) ∧ y0 :: B0 = y.2.1 :: y.2.2 := fun h =>
     ⟨in1 (by omega), (k + 1, y0, B0), ⟨⟨by show k + 1 ≤ _; omega, (hno h).trans k2⟩, by show _ - (k + 1) < _; omega⟩, by show _ = ((k + 1 : Nat) : Int); omega, rfl⟩
   rw [F.eq]
   refine ⟨idx_nat h1, F.ok, fun h => keep (.inl (nt1 h)), fun h => ?_⟩
   have hh : hit f n ((L62 n f).getD k (0, 0)) = true := nt0 h
   rw [List.reverse_reverse]
   refine ⟨hL F.pb, ⟨_, F.ib hh, rfl, rfl⟩, fun _ _ => ⟨⟨by rw [List.length_reverse]; omega, by simp⟩, fun h2 => ⟨in1 (by omega), (k + 1, y, B), ⟨⟨by show k + 1 ≤ _; omega, ?_⟩, by show _ - (k + 1) < _; omega⟩, by show _ = ((k + 1 : Nat) : Int); omega, hy⟩, fun h2 => keep (.inr ?_)⟩⟩
   · exact (hb hh (.inr (by rw [k2, List.length_cons]; omega))).trans hy
   · rw [k2]
     rintro (h3 | h3)
     · cases h3
     · rw [List.length_cons] at h3; omega
/-- The answer of Clash. -/
def ckL (n : Nat) (l : LP) : LP := bsK (eg l) n (L62 n (eg l)) (L62 n (eg l)).length
def ckB (n : Nat) (l : LP) : Bool := !(ckL n l).isEmpty
def fc4 (W : LP) : List Fam := [⟨Unit, fun _ => W = [], fun _ => ⟨(dd 17 ++ nl :: dd 68 ++ nl :: .int .i64 0 :: .int .i64 0 :: dd 12), []⟩, fun _ => 0, fun _ _ => none⟩,
 ⟨PA × LP, fun x => W = x.1 :: x.2, fun x => ⟨(dd 17 ++ nl :: dd 68 ++ .own 0 0 :: .int .i64 ((x.2.length : Int) + 1) :: .int .i64 0 :: dd 12), [.sc 0 91 AR (x.1 :: x.2)]⟩, fun x => x.2.length + 1, fun _ _ => none⟩,
 ⟨PA × LP × Nat, fun x => W = x.1 :: x.2.1 ∧ x.2.2 ≤ x.2.1.length, fun x => ⟨(dd 17 ++ .own 0 0 :: dd 68 ++ .own 1 0 :: .int .i64 ((x.2.1.length : Int) + 1) :: .int .i64 ((x.2.2 : Int) + 1) :: dd 12), [.sc 0 52 P2 ((x.1 :: x.2.1).take (x.2.2 + 1)), .sc 0 91 AR (x.1 :: x.2.1)]⟩, fun x => x.2.1.length - x.2.2, fun _ _ => none⟩]
def xc4 (W : LP) : List (List Nat × Ex) := [([17], ⟨4, Unit, fun _ => W = [], fun _ => ⟨(dd 17 ++ nl :: dd 83), []⟩⟩), ([17], ⟨4, PA × LP, fun x => W = x.1 :: x.2, fun x => ⟨(dd 17 ++ .own 0 0 :: dd 83), [.sc 0 52 P2 (x.1 :: x.2)]⟩⟩)]
def hc4 (W : LP) : Hint := ⟨chks 0 [17, 86, 87, 88] (fc4 W), (xc4 W).map (·.2)⟩
theorem loop25c (W : LP) (hW : W.length ≤ 61) (R : Exit → St → Prop) : LoopOK X25 L25_4 (hc4 W) R := by
 refine loop_fams (X_ok _) [17, 86, 87, 88] (fc4 W) (xc4 W) 200 ⟨fun (x : Unit) hx => ?_, fun (x : PA × LP) hx => ?_, fun (x : PA × LP × Nat) hx => ?_, trivial⟩
 · refine of_eq (q := True ∧ ((0 : Int) < 0 → False) ∧ (¬(0 : Int) < 0 → (∃ (y : Unit), W = [] ∧ (True ∧ True) ∧ True) ∨ ∃ (y : PA × LP), W = y.fst :: y.snd ∧ (False ∧ True) ∧ False)) (by kernel_rfl) ?_
   simp only [zz]
   exact ⟨fun h => by omega, fun _ => hx⟩
 · refine of_eq (q := (fun (e : Int) => (fun (d : Int) => (fun (c : Nat) => (fun (b : Prop) => (fun (a : Int) => b ∧ (e < a → idxPre e (List.length x.snd + 1) ∧ b ∧ b ∧ b ∧ b ∧ b ∧ (b ∧ b) ∧ b ∧ sumPre (0 : Nat) [(x.fst.fst, x.fst.snd)].length (nat_lit 16) ∧ b ∧ inR .i64 d ∧ b ∧ ((∃ (y : Unit), (W = [] ∧ (0 : Nat) < c) ∧ (False ∧ False ∧ a = e ∧ d = e ∧ b) ∧ b) ∨ (∃ (y : PA × LP), (W = y.fst :: y.snd ∧ List.length y.snd + 1 < c) ∧ (False ∧ False ∧ a = (↑(List.length y.snd) : Int) + d ∧ d = e ∧ b) ∧ False ∧ b) ∨ ∃ (y : PA × LP × Nat), ((W = y.fst :: y.snd.fst ∧ y.snd.snd ≤ List.length y.snd.fst) ∧ List.length y.snd.fst - y.snd.snd < c) ∧ (b ∧ b ∧ a = (↑(List.length y.snd.fst) : Int) + d ∧ d = (y.snd.snd : Int) + d ∧ b) ∧ [(x.fst.fst, x.fst.snd)] = y.fst :: List.take y.snd.snd y.snd.fst ∧ x.fst :: x.snd = y.fst :: y.snd.fst ∧ b)) ∧ (¬e < a → (∃ (y : Unit), W = [] ∧ (b ∧ b) ∧ b) ∨ ∃ (y : PA × LP), W = y.fst :: y.snd ∧ (False ∧ b) ∧ False)) ((↑(List.length x.snd) : Int) + d)) (True)) (List.length x.snd + 1)) ((1 : Int))) ((0 : Int))) (by kernel_rfl) ?_
   simp only [zz]
   have hx : W = x.1 :: x.2 := hx
   rw [hx, List.length_cons] at hW
   refine ⟨fun h1 => ⟨by unfold idxPre; omega, by simp [sumPre], by simp only [inR]; omega, (x.1, x.2, 0), ⟨⟨hx, Nat.zero_le _⟩, by show x.2.length - 0 < x.2.length + 1; omega⟩, ⟨rfl, rfl⟩, rfl, rfl⟩, fun h1 => by omega⟩
 · refine of_eq (q := (fun (i : Int) => (fun (g : Int) => (fun (f : Nat) => (fun (e : Prop) => (fun (d : LP) => (fun (j : List (Int × Int)) => (fun (h : Nat) => (fun (c : Int) => (fun (b : Int) => (fun (a : Int × Int) => e ∧ (b < c → idxPre b (List.length d + 1) ∧ e ∧ e ∧ e ∧ e ∧ e ∧ (e ∧ e) ∧ e ∧ sumPre j.length [(a.fst, a.snd)].length (nat_lit 16) ∧ e ∧ inR .i64 (b + g) ∧ e ∧ ((∃ (y : Unit), (W = [] ∧ (0 : Nat) < h) ∧ (False ∧ False ∧ c = i ∧ b + g = i ∧ e) ∧ e) ∨ (∃ (y : PA × LP), (W = y.fst :: y.snd ∧ List.length y.snd + 1 < h) ∧ (False ∧ False ∧ c = (↑(List.length y.snd) : Int) + g ∧ b + g = i ∧ e) ∧ False ∧ e) ∨ ∃ (y : PA × LP × Nat), ((W = y.fst :: y.snd.fst ∧ y.snd.snd ≤ List.length y.snd.fst) ∧ List.length y.snd.fst - y.snd.snd < h) ∧ (e ∧ e ∧ c = (↑(List.length y.snd.fst) : Int) + g ∧ b + g = (y.snd.snd : Int) + g ∧ e) ∧ j ++ [(a.fst, a.snd)] = y.fst :: List.take y.snd.snd y.snd.fst ∧ x.fst :: d = y.fst :: y.snd.fst ∧ e)) ∧ (¬b < c → (∃ (y : Unit), W = [] ∧ (False ∧ e) ∧ e) ∨ ∃ (y : PA × LP), W = y.fst :: y.snd ∧ (e ∧ e) ∧ j = y.fst :: y.snd ∧ e)) ((x.fst :: d).getD (f + 1) (i, i))) ((f : Int) + g)) ((↑(List.length d) : Int) + g)) (List.length d - f)) (x.fst :: List.take f d)) (x.snd.fst)) (True)) (x.snd.snd)) ((1 : Int))) ((0 : Int))) (by kernel_rfl) ?_
   simp only [zz]
   obtain ⟨y, B, k⟩ := x
   obtain ⟨h1, h2⟩ := hx
   simp only at h1 h2 ⊢
   rw [h1, List.length_cons] at hW
   refine ⟨fun h3 => ?_, fun h3 => ⟨(y, B), h1, by rw [List.take_of_length_le (by omega)]⟩⟩
   have h3 : k < B.length := by omega
   refine ⟨by unfold idxPre; omega, by unfold sumPre; simp; omega, by simp only [inR]; omega, (y, B, k + 1), ⟨⟨h1, by show k + 1 ≤ B.length; omega⟩, by show B.length - (k + 1) < B.length - k; omega⟩, ⟨rfl, by show _ = ((k + 1 : Nat) : Int) + 1; omega⟩, ?_, rfl⟩
   show _ = y :: B.take (k + 1)
   rw [take_getD (d := (0, 0)) h3]; try rfl
theorem call25 (n : Nat) (l : LP) (h : grOk n l) : GCall Try.prog gl 25 false [.int .i64 n, .sl P2 l] [] [.sl P2 (ckL n l), .bool (ckB n l), .int .i64 0] [] := by
 refine gcall_of (X := X25) ((X_ok _)) (f := 25) (fn := Try.f25) (c := bodyOf Try.f25) (by kernel_rfl) (by kernel_rfl) (view := true) (rvs := [.tmp 4, .tmp 5, .tmp 6]) (by kernel_rfl) (H := (fun id => if id = 0 then some (ha25 n (eg l) (L62 n (eg l))) else some (hc4 (ckL n l)))) 150 (by kernel_rfl) ?_
 obtain ⟨n1, n2⟩ := h.hn
 have hL := fun R => loop25a n (eg l) (by omega) (by omega) R
 have hM := fun R => loop25c (ckL n l) (bsK_len _ _ _ _) R
 refine of_eq (q := (fun (o : Int) => (fun (m : List ResultVar) => (fun (g : LP) => (fun (f : Int) => (fun (k : List AV) => (fun (e : Prop) => (fun (p : Prop) => (fun (h : Prop) => (fun (d : Rl) => (fun (i : Prop) => (fun (c : Prop) => (fun (b : LP) => (fun (q : Nat) => (fun (j : Prop) => (fun (a : Prop) => e ∧ e ∧ e ∧ e ∧ e ∧ (grOk (n : Int) l ∧ e) ∧ e ∧ e ∧ e ∧ e ∧ e ∧ e ∧ e ∧ (¬f = f → h) ∧ (¬¬f = f → e ∧ e ∧ ((okG ((n : Int), d) ∧ (e ∧ e) ∧ i ∧ e) ∧ e ∧ e) ∧ e ∧ e ∧ LoopOK X25 L25_0 (ha25 n (eg l) b) (RetR X25 false true m k []) ∧ ((∃ (y : Nat), (y ≤ q ∧ bsK (eg l) n b y = []) ∧ (e ∧ e ∧ L62 n (rg d) = b ∧ j ∧ f = (y : Int) ∧ e) ∧ i ∧ e) ∨ ∃ (y : Nat × PA × LP), (y.fst ≤ q ∧ bsK (eg l) n b y.fst = y.snd.fst :: y.snd.snd) ∧ (e ∧ False ∧ L62 n (rg d) = b ∧ j ∧ f = (y.fst : Int) ∧ e) ∧ i ∧ False) ∧ (∀ (y : Unit), bsK (eg l) n b q = [] → e ∧ e ∧ e ∧ e ∧ c ∧ ((∃ (y : Unit), g = [] ∧ (e ∧ e ∧ f = f ∧ p) ∧ e) ∨ (∃ (y : PA × LP), g = y.fst :: y.snd ∧ (e ∧ False ∧ f = (↑(List.length y.snd) : Int) + o ∧ p) ∧ False) ∨ ∃ (y : PA × LP × Nat), (g = y.fst :: y.snd.fst ∧ y.snd.snd ≤ List.length y.snd.fst) ∧ (False ∧ False ∧ f = (↑(List.length y.snd.fst) : Int) + o ∧ f = (y.snd.snd : Int) + o ∧ e) ∧ False) ∧ a) ∧ (∀ (y : PA × LP), bsK (eg l) n b q = y.fst :: y.snd → e ∧ e ∧ e ∧ e ∧ c ∧ ((∃ (y_1 : Unit), g = [] ∧ (e ∧ False ∧ (↑(List.length y.snd) : Int) + o = f ∧ p) ∧ e) ∨ (∃ (y_1 : PA × LP), g = y_1.fst :: y_1.snd ∧ (e ∧ e ∧ (↑(List.length y.snd) : Int) + o = (↑(List.length y_1.snd) : Int) + o ∧ p) ∧ y.fst :: y.snd = y_1.fst :: y_1.snd ∧ e) ∨ ∃ (y_1 : PA × LP × Nat), (g = y_1.fst :: y_1.snd.fst ∧ y_1.snd.snd ≤ List.length y_1.snd.fst) ∧ (False ∧ False ∧ (↑(List.length y.snd) : Int) + o = (↑(List.length y_1.snd.fst) : Int) + o ∧ f = (y_1.snd.snd : Int) + o ∧ e) ∧ False ∧ False) ∧ a) ∧ e)) ((∀ (y : Unit), g = [] → e ∧ e ∧ h) ∧ (∀ (y : PA × LP), g = y.fst :: y.snd → e ∧ e ∧ e ∧ e ∧ e ∧ e ∧ e ∧ (y.fst :: y.snd = g ∧ true = ckB n l ∧ p) ∧ e) ∧ e)) ((↑(List.length (L62 n (rg d))) : Int) = (q : Int))) (List.length b)) (L62 n (eg l))) (LoopOK X25 L25_4 (hc4 g) (RetR X25 false true m k []))) ((n : Int) = (n : Int) ∧ d = d ∧ e)) (mkR (eg l))) (e ∧ e ∧ e ∧ e ∧ e ∧ (([] : List (Int × Int)) = g ∧ false = ckB n l ∧ p) ∧ e)) (f = f ∧ e)) (True)) ([AV.sl P2 g, AV.bool (ckB n l), AV.int .i64 f])) ((0 : Int))) (ckL n l)) ([ResultVar.tmp (4 : Tmp), ResultVar.tmp (5 : Tmp), ResultVar.tmp (6 : Tmp)])) ((1 : Int))) (by kernel_rfl) ?_
 simp only [zz]
 have e : L62 n (rg (mkR (eg l))) = L62 n (eg l) := L62_ext rgm
 have c1 : ckL n l = [] → [] = ckL n l ∧ false = ckB n l := fun h => by unfold ckB; rw [h]; exact ⟨rfl, rfl⟩
 have c2 : ∀ y : PA × LP, ckL n l = y.1 :: y.2 → y.1 :: y.2 = ckL n l ∧ true = ckB n l := fun y h => by unfold ckB; rw [h]; exact ⟨rfl, rfl⟩
 rw [e]
 exact ⟨h, fun h1 => absurd trivial h1, fun _ => ⟨okG_mk (by omega) (by omega) _, hL _, ⟨0, ⟨Nat.zero_le _, rfl⟩, rfl, rfl, rfl⟩, fun _ h1 => ⟨hM _, h1, fun _ => c1, c2⟩, fun y h1 => ⟨hM _, ⟨y, h1, rfl, rfl⟩, fun _ => c1, c2⟩⟩⟩
end Go.Am.Or

/- Orders: the number of orders. -/
namespace Go.Am.Or
open Go Go.Am Go.Proofs
def spC (f r : RF) (a b c : Nat) : Bool := (r b c && (!f a c || r c a)) || (r c a && (!f c b || r b c))
def spB (n : Nat) (f r : RF) (a b : Nat) : Bool := (List.range n).any (spC f r a b)
noncomputable def L49_0 : Code := lp (bodyOf Try.f49) 0
def st49 (n : Nat) (f r : RF) (a b c : Nat) : St := ⟨(.ptr 0 0 [] :: .dead :: .int .i64 a :: .int .i64 b :: .dead :: .ptr 1 0 [] :: dd 7 ++ .int .i64 n :: .int .i64 c :: dd 51), [grO n f, relO r]⟩
def ex49 (n : Nat) (f r : RF) (a b : Nat) : List (List Nat × Ex) := [([], ⟨0, Unit, fun _ => spB n f r a b = false, fun _ => ⟨(dd 66), [grO n f]⟩⟩)]
def h49 (n : Nat) (f r : RF) (a b : Nat) : Hint := ⟨chk 1 [0, 2, 3, 5, 13, 14] (fun c => c ≤ n ∧ ∀ j, j < c → spC f r a b j = false) (st49 n f r a b), (ex49 n f r a b).map (·.2)⟩
theorem spB_yes {n : Nat} {f r : RF} {a b c : Nat} (hc : c < n) (h : spC f r a b c = true) : spB n f r a b = true := List.any_eq_true.mpr ⟨c, by simpa using hc, h⟩
theorem spB_no {n : Nat} {f r : RF} {a b : Nat} (h : ∀ j, j < n → spC f r a b j = false) : spB n f r a b = false := by
 unfold spB
 rw [List.any_eq_false]
 intro j hj
 rw [h j (by simpa using hj)]; decide
theorem loop49 (n : Nat) (hn : n ≤ 7) (f r : RF) (a b : Nat) (ha : a < 7) (hb : b < 7) : LoopOK X1 L49_0 (h49 n f r a b) (RetR X1 true false [.tmp 8] [.bool (spB n f r a b)] [grO n f]) := by
 refine loop_ok (Xm_ok _ _ _) (H := fun _ _ => none) [0, 2, 3, 5, 13, 14] (fun c => c ≤ n ∧ ∀ j, j < c → spC f r a b j = false) (st49 n f r a b) (fun c => n - c) (ex49 n f r a b) 250 fun (c : Nat) hc => ?_
 refine of_eq (q := (fun (u : Int) => (fun (t : Int) => (fun (s : Rl) => (fun (q : Prop) => (fun (p : Prop) => (fun (k : Prop) => (fun (i : Prop) => (fun (o : Prop) => (fun (h : Prop) => (fun (g : Prop) => (fun (e : List Bool) => (fun (w : Bool) => (fun (v : Bool) => (fun (m : Bool) => (fun (l : Bool) => (fun (d : Prop) => i ∧ (u < t → i ∧ i ∧ i ∧ i ∧ p ∧ k ∧ i ∧ i ∧ (l = true → i ∧ i ∧ i ∧ i ∧ i ∧ q ∧ k ∧ i ∧ i ∧ i ∧ (v = true → i ∧ i ∧ i ∧ i ∧ h) ∧ (v = false → i ∧ i ∧ k ∧ q ∧ i ∧ i ∧ i ∧ i ∧ (m = true → i ∧ h) ∧ (m = false → d))) ∧ (l = false → i ∧ i ∧ d)) ∧ (¬u < t → ∃ (y : Unit), spB n f r a b = false ∧ i ∧ o ∧ i)) (i ∧ i ∧ k ∧ q ∧ i ∧ i ∧ (m = true → i ∧ i ∧ i ∧ i ∧ i ∧ k ∧ p ∧ i ∧ i ∧ i ∧ (w = true → i ∧ i ∧ i ∧ h) ∧ (w = false → i ∧ i ∧ p ∧ k ∧ i ∧ i ∧ i ∧ i ∧ (l = true → h) ∧ (l = false → g))) ∧ (m = false → i ∧ i ∧ g))) (List.getD (List.getD (mkR r) b e) c false)) (List.getD (List.getD (mkR r) c e) a false)) (!List.getD (List.getD s a e) c false)) (!List.getD (List.getD s c e) b false)) ([false, false, false, false, false, false, false])) (inR .i64 (u + 1) ∧ i ∧ ∃ (y : Nat), ((y ≤ n ∧ ∀ (j : Nat), j < y → spC f r a b j = false) ∧ n - y < n - c) ∧ (i ∧ (a : Int) = (a : Int) ∧ (b : Int) = (b : Int) ∧ i ∧ t = t ∧ u + 1 = (y : Int) ∧ i) ∧ o ∧ mkR r = mkR r ∧ i)) (i ∧ i ∧ (true = spB n f r a b ∧ i) ∧ o ∧ i)) (t = t ∧ s = s ∧ i)) (True)) (idxPre u (7 : Nat))) (idxPre (b : Int) (7 : Nat))) (idxPre (a : Int) (7 : Nat))) (mkR f)) ((n : Int))) ((c : Int))) (by kernel_rfl) ?_
 simp only [zz]
 obtain ⟨c1, c2⟩ := hc
 refine ⟨fun h1 => ?_, fun h1 => spB_no fun j hj => c2 j (by omega)⟩
 have h1 : c < n := by omega
 have yes : spC f r a b c = true → true = spB n f r a b := fun h => (spB_yes h1 h).symm
 have no : spC f r a b c = false → inR .i64 ((c : Int) + 1) ∧ ∃ y : Nat, ((y ≤ n ∧ ∀ j, j < y → spC f r a b j = false) ∧ n - y < n - c) ∧ (c : Int) + 1 = (y : Int) := fun h => ⟨in1 (by omega), c + 1, ⟨⟨by omega, fun j hj => by
   by_cases e : j = c
   · rw [e]; exact h
   · exact c2 j (by omega)⟩, by omega⟩, by omega⟩
 have ia := i7 ha
 have ib := i7 hb
 have ic := i7 (show c < 7 by omega)
 rw [rel_get r hb (by omega), rel_get r (by omega) ha, rel_get f ha (by omega), rel_get f (by omega) hb]
 generalize (inR .i64 ((c : Int) + 1) ∧ ∃ y : Nat, ((y ≤ n ∧ ∀ j, j < y → spC f r a b j = false) ∧ n - y < n - c) ∧ (c : Int) + 1 = (y : Int)) = N at no ⊢
 unfold spC at yes no
 generalize (true = spB n f r a b) = Y at yes ⊢
 clear c2
 (repeat' first | with_reducible exact trivial | with_reducible apply And.intro | intro _)
 all_goals first | exact ia | exact ib | exact ic | exact yes (by simp_all) | exact no (by simp_all)
theorem call49 (n : Nat) (hn : n ≤ 7) (f r : RF) (a b : Nat) (ha : a < 7) (hb : b < 7) : GCall Try.prog gl 49 true [.ptr 0 0 [], .ar Q7 7 (mkR r), .int .i64 a, .int .i64 b] [grO n f] [.bool (spB n f r a b)] [grO n f] := by
 refine gcall_of (X := X1) ((Xm_ok _ _ _)) (f := 49) (fn := Try.f49) (c := bodyOf Try.f49) (by kernel_rfl) (by kernel_rfl) (view := false) (rvs := [.tmp 8]) (by kernel_rfl) (H := (fun _ => some (h49 n f r a b))) 150 (by kernel_rfl) ?_
 have hL := loop49 n hn f r a b ha hb
 refine of_eq (q := (fun (d : Prop) => (fun (c : Int) => (fun (e : Prop) => d ∧ d ∧ d ∧ d ∧ d ∧ d ∧ d ∧ LoopOK X1 L49_0 (h49 n f r a b) (RetR X1 true false [ResultVar.tmp (8 : Tmp)] [AV.bool (spB n f r a b)] [grO c f]) ∧ (∃ (y : Nat), (y ≤ n ∧ ∀ (j : Nat), j < y → spC f r a b j = false) ∧ (d ∧ (a : Int) = (a : Int) ∧ (b : Int) = (b : Int) ∧ d ∧ c = c ∧ (0 : Int) = (y : Int) ∧ d) ∧ e ∧ mkR r = mkR r ∧ d) ∧ (∀ (y : Unit), spB n f r a b = false → d ∧ d ∧ (false = spB n f r a b ∧ d) ∧ e ∧ d) ∧ d) (c = c ∧ mkR f = mkR f ∧ d)) ((n : Int))) (True)) (by kernel_rfl) ?_
 simp only [zz]
 exact ⟨hL, ⟨0, ⟨Nat.zero_le _, fun j hj => absurd hj (Nat.not_lt_zero _)⟩, rfl⟩, fun _ h => h.symm⟩
def get49 (xs : List AV) (obs : List Ob) : Option ((Int × Rl) × Rl × Int × Int) :=
 match xs, unG (obs.getD 0 .gone) with
 | [_, .ar e _ ys, .int .i64 a, .int .i64 b], some g => (match castL e Q7 ys with
   | some zs => some (g, zs, a, b)
   | none => none)
 | _, _ => none
structure ok49 (x : (Int × Rl) × Rl × Int × Int) : Prop where
 g : okG x.1
 r : x.2.1 = mkR (rg x.2.1)
 a : 0 ≤ x.2.2.1 ∧ x.2.2.1 < 7
 b : 0 ≤ x.2.2.2 ∧ x.2.2.2 < 7
noncomputable def e49 : Entry Try.prog gl := entryW 49 ⟨Try.f49, by kernel_rfl, by kernel_rfl, by kernel_rfl⟩ true get49 ok49 true (fun x => [.ptr 0 0 [], .ar Q7 7 x.2.1, .int .i64 x.2.2.1, .int .i64 x.2.2.2]) (fun x => [grQ x.1]) (fun x => [.bool (spB x.1.1.toNat (rg x.1.2) (rg x.2.1) x.2.2.1.toNat x.2.2.2.toNat)]) (fun x => [grQ x.1]) (fun x h => by
 rw [grQ_ok h.g]
 have := call49 x.1.1.toNat (by have := h.g.n7; omega) (rg x.1.2) (rg x.2.1) x.2.2.1.toNat x.2.2.2.toNat (by have := h.a; omega) (by have := h.b; omega)
 rwa [← h.r, Int.toNat_of_nonneg h.a.1, Int.toNat_of_nonneg h.b.1] at this)
def sp1 (n : Nat) (f r : RF) (a b : Nat) : Bool := spB n f (upd r a b true) a b
def gw (n : Nat) (f : RF) : LP → RF → Nat
 | [], r => if trB r = true then 1 else 0
 | e :: l, r => (if sp1 n f r e.1.toNat e.2.toNat = true then 0 else gw n f l (upd r e.1.toNat e.2.toNat true)) + (if sp1 n f r e.2.toNat e.1.toNat = true then 0 else gw n f l (upd r e.2.toNat e.1.toNat true))
def hf (n : Nat) (f : RF) (l : LP) (r : RF) (a b : Nat) : Nat := if sp1 n f r a b = true then 0 else gw n f l (upd r a b true)
theorem gw_le (n : Nat) (f : RF) : ∀ (l : LP) (r : RF), gw n f l r ≤ 2 ^ l.length
 | [], r => by rw [gw]; split <;> simp
 | e :: l, r => by
   have h1 := gw_le n f l (upd r e.1.toNat e.2.toNat true)
   have h2 := gw_le n f l (upd r e.2.toNat e.1.toNat true)
   rw [gw, List.length_cons, Nat.pow_succ]
   split <;> split <;> omega
/-- The objects of the search: the list, the relation, the number, the graph, the search itself. -/
def gG (n : Nat) (f : RF) (l : LP) (r : RF) (v : Nat) : List Ob := [.bx (.sl P2 l), relO r, .bx (.int .i64 v), .bx (.ptr 4 0 []), grO n f, .bx (.clo 47 [] [.ptr 0 0 [], .ptr 1 0 [], .ptr 2 0 [], .ptr 3 0 [], .ptr 5 0 []])]
def aG (i : Int) : List AV := [.int .i64 i, .ptr 0 0 [], .ptr 1 0 [], .ptr 2 0 [], .ptr 3 0 [], .ptr 5 0 []]
structure okW (n : Nat) (f : RF) (l l1 l2 : LP) (r : RF) (v : Nat) : Prop where
 n1 : 1 ≤ n
 hn : n ≤ 7
 e : l = l1 ++ l2
 h2 : ∀ y, y ∈ l2 → (0 ≤ y.1 ∧ y.1 < 7) ∧ (0 ≤ y.2 ∧ y.2 < 7) ∧ ¬ y.1 = y.2 ∧ r y.1.toNat y.2.toNat = false ∧ r y.2.toNat y.1.toNat = false
 nd : l2.Pairwise fun y z => ¬ (y.1 = z.1 ∧ y.2 = z.2) ∧ ¬ (y.1 = z.2 ∧ y.2 = z.1)
 hl : l.length ≤ 21
 v : v + 2 ^ l2.length ≤ 1000000000
def GS (n : Nat) (f : RF) (l : LP) (d : Nat) : Prop := ∀ l1 l2 r v, l2.length = d → okW n f l l1 l2 r v → GCall Try.prog gl 47 false (aG l1.length) (gG n f l r v) [] (gG n f l r (v + gw n f l2 r))
def unRl : Ob → Option Rl
 | .bx (.ar e _ ys) => castL e Q7 ys
 | _ => none
def get47 (xs : List AV) (obs : List Ob) : Option (Int × Rl × Int) :=
 match xs, unRl (obs.getD 1 .gone), unI (obs.getD 2 .gone) with
 | .int .i64 i :: _, some r, some v => some (i, r, v)
 | _, _, _ => none
structure ok47 (n : Nat) (f : RF) (l : LP) (d : Nat) (x : Int × Rl × Int) : Prop where
 i : 0 ≤ x.1
 d : x.1.toNat + d = l.length
 r : x.2.1 = mkR (rg x.2.1)
 v : 0 ≤ x.2.2
 w : okW n f l (l.take x.1.toNat) (l.drop x.1.toNat) (rg x.2.1) x.2.2.toNat
def gQ (n : Nat) (f : RF) (l : LP) (xs : Rl) (v : Int) : List Ob := [.bx (.sl P2 l), .bx (.ar Q7 7 xs), .bx (.int .i64 v), .bx (.ptr 4 0 []), grO n f, .bx (.clo 47 [] [.ptr 0 0 [], .ptr 1 0 [], .ptr 2 0 [], .ptr 3 0 [], .ptr 5 0 []])]
noncomputable def e47 (n : Nat) (f : RF) (l : LP) (d : Nat) (h : GS n f l d) : Entry Try.prog gl := entryW 47 ⟨Try.f47, by kernel_rfl, by kernel_rfl, by kernel_rfl⟩ true get47 (ok47 n f l d) false (fun x => aG x.1) (fun x => gQ n f l x.2.1 x.2.2) (fun _ => []) (fun x => gQ n f l x.2.1 (x.2.2 + (gw n f (l.drop x.1.toNat) (rg x.2.1) : Nat))) (fun x hx => by
 have := h (l.take x.1.toNat) (l.drop x.1.toNat) (rg x.2.1) x.2.2.toNat (by rw [List.length_drop]; have := hx.d; omega) hx.w
 unfold gG relO at this
 rw [← hx.r, List.length_take, show min x.1.toNat l.length = x.1.toNat by have := hx.d; omega, Int.toNat_of_nonneg hx.i, Int.natCast_add, Int.toNat_of_nonneg hx.v] at this
 exact this)
noncomputable def L47_0 : Code := lp (bodyOf Try.f47) 0
def sA (a b : Nat) (j : Nat) : Nat := if j % 2 = 0 then a else b
def ps (n : Nat) (f : RF) (l : LP) (r : RF) (a b : Nat) : Nat → Nat
 | 0 => 0
 | j + 1 => ps n f l r a b j + hf n f l r (sA a b j) (sA b a j)
noncomputable abbrev X47 (n : Nat) (f : RF) (l : LP) (d : Nat) (h : GS n f l d) : Cy := Xm [e48, e49, e47 n f l d h] 6 (fun _ => none)
def st47 (n : Nat) (f : RF) (l l2 : LP) (r : RF) (v i a b : Nat) (j : Nat) : St := ⟨(.int .i64 i :: .dead :: .ptr 1 0 [] :: .dead :: .ptr 3 0 [] :: .ptr 5 0 [] :: .dead :: .int .i64 (sA a b j) :: .int .i64 (sA b a j) :: dd 18 ++ .int .i64 j :: dd 22), gG n f l r (v + ps n f l2 r a b j)⟩
def ex47 (n : Nat) (f : RF) (l l2 : LP) (r : RF) (v a b : Nat) : List (List Nat × Ex) := [([], ⟨0, Unit, fun _ => True, fun _ => ⟨(dd 50), gG n f l r (v + ps n f l2 r a b 2)⟩⟩)]
def h47 (n : Nat) (f : RF) (l l2 : LP) (r : RF) (v i a b : Nat) : Hint := ⟨chk 6 [0, 2, 4, 5, 7, 8, 27] (fun j => j ≤ 2) (st47 n f l l2 r v i a b), (ex47 n f l l2 r v a b).map (·.2)⟩
theorem spB_ext {n : Nat} (hn : n ≤ 7) {f g r s : RF} (hf : ∀ x y, x < 7 → y < 7 → f x y = g x y) (hr : ∀ x y, x < 7 → y < 7 → r x y = s x y) {a b : Nat} (ha : a < 7) (hb : b < 7) : spB n f r a b = spB n g s a b := by
 have e : ∀ c, c < 7 → spC f r a b c = spC g s a b c := fun c hc => by
   unfold spC
   rw [hf a c ha hc, hf c b hc hb, hr b c hb hc, hr c a hc ha]
 rw [Bool.eq_iff_iff]
 unfold spB
 rw [List.any_eq_true, List.any_eq_true]
 exact ⟨fun ⟨c, h1, h2⟩ => ⟨c, h1, by rw [← e c (by have := List.mem_range.mp h1; omega)]; exact h2⟩, fun ⟨c, h1, h2⟩ => ⟨c, h1, by rw [e c (by have := List.mem_range.mp h1; omega)]; exact h2⟩⟩
theorem upd_ext {r s : RF} (hr : ∀ x y, x < 7 → y < 7 → r x y = s x y) (a b : Nat) (v : Bool) : ∀ x y, x < 7 → y < 7 → upd r a b v x y = upd s a b v x y := fun x y hx hy => by unfold upd; rw [hr x y hx hy]
theorem gw_ext {n : Nat} (hn : n ≤ 7) {f g : RF} (hf : ∀ x y, x < 7 → y < 7 → f x y = g x y) : ∀ {l : LP} {r s : RF}, (∀ y, y ∈ l → (0 ≤ y.1 ∧ y.1 < 7) ∧ (0 ≤ y.2 ∧ y.2 < 7)) → (∀ x y, x < 7 → y < 7 → r x y = s x y) → gw n f l r = gw n g l s
 | [], r, s, _, hr => by rw [gw, gw, trB_ext hr]
 | e :: l, r, s, hl, hr => by
   have h0 := hl e (by simp)
   have hl' := fun y (hy : y ∈ l) => hl y (by simp [hy])
   rw [gw, gw, gw_ext hn hf hl' (upd_ext hr _ _ _), gw_ext hn hf hl' (upd_ext hr _ _ _)]
   unfold sp1
   rw [spB_ext hn hf (upd_ext hr _ _ _) (by omega) (by omega), spB_ext hn hf (upd_ext hr _ _ _) (by omega) (by omega)]
theorem sA_cases {a b j : Nat} (hj : j < 2) : (j = 0 ∧ sA a b j = a ∧ sA b a j = b) ∨ (j = 1 ∧ sA a b j = b ∧ sA b a j = a) := by
 rcases show j = 0 ∨ j = 1 by omega with rfl | rfl
 · exact .inl ⟨rfl, rfl, rfl⟩
 · exact .inr ⟨rfl, rfl, rfl⟩
theorem hf_le (n : Nat) (f : RF) (l : LP) (r : RF) (a b : Nat) : hf n f l r a b ≤ 2 ^ l.length := by
 unfold hf
 split
 · exact Nat.zero_le _
 · exact gw_le n f l _
theorem upd_back {r : RF} {a b : Nat} (h : r a b = false) : mkR (upd (upd r a b true) a b false) = mkR r := mkR_ext fun x y _ _ => by
 unfold upd
 by_cases e : x = a ∧ y = b
 · rw [if_pos e, e.1, e.2, h]
 · rw [if_neg e, if_neg e]
theorem okW_next {n : Nat} {f : RF} {l l1 l2 : LP} {e : PA} {r : RF} {v w A B : Nat} (hw : okW n f l l1 (e :: l2) r v) (hAB : (A = e.1.toNat ∧ B = e.2.toNat) ∨ (A = e.2.toNat ∧ B = e.1.toNat)) (hv : w + 2 ^ l2.length ≤ 1000000000) : okW n f l (l1 ++ [e]) l2 (upd r A B true) w := by
 have h0 := hw.h2 e (by simp)
 have hnd := List.pairwise_cons.mp hw.nd
 refine ⟨hw.n1, hw.hn, by rw [hw.e]; simp, fun y hy => ?_, hnd.2, hw.hl, hv⟩
 obtain ⟨g1, g2, g3, g4, g5⟩ := hw.h2 y (by simp [hy])
 have gn := hnd.1 y hy
 refine ⟨g1, g2, g3, ?_, ?_⟩
 · unfold upd; rw [if_neg (by omega)]; exact g4
 · unfold upd; rw [if_neg (by omega)]; exact g5
theorem loop47 (n : Nat) (f : RF) (l : LP) (d : Nat) (h : GS n f l d) (l1 l2 : LP) (e : PA) (r : RF) (v : Nat) (hd : l2.length = d) (hw : okW n f l l1 (e :: l2) r v) (R : Exit → St → Prop) : LoopOK (X47 n f l d h) L47_0 (h47 n f l l2 r v l1.length e.1.toNat e.2.toNat) R := by
 refine loop_ok (Xm_ok _ _ _) (H := fun _ _ => none) [0, 2, 4, 5, 7, 8, 27] (fun j => j ≤ 2) (st47 n f l l2 r v l1.length e.1.toNat e.2.toNat) (fun j => 2 - j) (ex47 n f l l2 r v e.1.toNat e.2.toNat) 250 fun (j : Nat) hj => ?_
 refine of_eq (q := (fun (A : Nat) => (fun (z : Int) => (fun (x : Rl) => (fun (u : Int) => (fun (t : Rl) => (fun (p : Nat) => (fun (o : Nat) => (fun (m : List Bool) => (fun (k : Int) => (fun (E : Int) => (fun (i : Prop) => (fun (w : Prop) => (fun (h : Int) => (fun (g : Nat) => (fun (q : Int) => (fun (D : Prop) => (fun (c : Prop) => (fun (b : Nat) => (fun (s : Int) => (fun (C : Prop) => (fun (a : List (List Bool)) => (fun (B : Prop) => i ∧ ((j : Int) < 2 → i ∧ i ∧ C ∧ D ∧ i ∧ i ∧ i ∧ i ∧ i ∧ ((ok49 ((z, t), a, s, q) ∧ (i ∧ a = a ∧ s = s ∧ q = q ∧ i) ∧ (z = z ∧ t = t ∧ i) ∧ i) ∧ i ∧ i) ∧ i ∧ ((!spB n (rg t) (rg a) b g) = true → i ∧ i ∧ inR .i64 E ∧ ((ok47 n f l d (E, a, h) ∧ (E = E ∧ w) ∧ l = l ∧ a = a ∧ h = h ∧ c) ∧ i ∧ w) ∧ i ∧ i ∧ C ∧ D ∧ i ∧ i ∧ i ∧ i ∧ i ∧ inR .i64 u ∧ i ∧ ∃ (y : Nat), (y ≤ A ∧ A - y < A - j) ∧ (k = k ∧ i ∧ i ∧ i ∧ q = (↑(sA p o y) : Int) ∧ s = (↑(sA o p y) : Int) ∧ u = (y : Int) ∧ i) ∧ l = l ∧ B ∧ h + (↑(gw n f (List.drop (List.length l1 + 1) l) (rg a)) : Int) = (v : Int) + (↑(ps n f l2 r p o y) : Int) ∧ c) ∧ ((!spB n (rg t) (rg a) b g) = false → i ∧ i ∧ C ∧ D ∧ i ∧ i ∧ i ∧ i ∧ i ∧ inR .i64 u ∧ i ∧ ∃ (y : Nat), (y ≤ A ∧ A - y < A - j) ∧ (k = k ∧ i ∧ i ∧ i ∧ q = (↑(sA p o y) : Int) ∧ s = (↑(sA o p y) : Int) ∧ u = (y : Int) ∧ i) ∧ l = l ∧ B ∧ h = (v : Int) + (↑(ps n f l2 r p o y) : Int) ∧ c)) ∧ (¬(j : Int) < 2 → ∃ (y : Unit), i ∧ i ∧ l = l ∧ x = x ∧ h = (v : Int) + (↑(ps n f l2 r p o A) : Int) ∧ c)) (a.set b (List.set (a.getD b m) g false) = x)) (List.set x b (List.set (List.getD x b m) g true))) (idxPre s (7 : Nat))) ((b : Int))) (sA p o j)) (i ∧ (z = z ∧ t = t ∧ i) ∧ (i ∧ w) ∧ i)) (idxPre q (7 : Nat))) ((g : Int))) (sA o p j)) ((v : Int) + (↑(ps n f l2 r p o j) : Int))) (i ∧ i ∧ i ∧ i ∧ i ∧ i)) (True)) (k + 1)) ((↑(List.length l1) : Int))) ([false, false, false, false, false, false, false])) (e.snd.toNat)) (e.fst.toNat)) (mkR f)) ((j : Int) + 1)) (mkR r)) ((n : Int))) ((2 : Nat))) (by kernel_rfl) ?_
 simp only [zz]
 obtain ⟨g1, g2, g3, g4, g5⟩ := hw.h2 e (by simp)
 have hv := hw.v
 have hn := hw.hn
 have hpl : 2 ^ (e :: l2).length = 2 ^ l2.length + 2 ^ l2.length := by rw [List.length_cons, Nat.pow_succ]; omega
 have hps : ∀ i, i ≤ 2 → ps n f l2 r e.1.toNat e.2.toNat i ≤ i * 2 ^ l2.length := fun i => by
   induction i with
   | zero => intro _; exact Nat.zero_le _
   | succ i ih =>
     intro hi
     have := ih (by omega)
     have := hf_le n f l2 r (sA e.1.toNat e.2.toNat i) (sA e.2.toNat e.1.toNat i)
     rw [ps, Nat.succ_mul]; omega
 refine ⟨fun h1 => ?_, fun h1 => by rw [show j = 2 by omega]⟩
 have h1 : j < 2 := by omega
 have hp := hps j hj
 have hstep : ps n f l2 r e.1.toNat e.2.toNat (j + 1) = ps n f l2 r e.1.toNat e.2.toNat j + hf n f l2 r (sA e.1.toNat e.2.toNat j) (sA e.2.toNat e.1.toNat j) := rfl
 have hsw : sA e.2.toNat e.1.toNat j = sA e.1.toNat e.2.toNat (j + 1) ∧ sA e.1.toNat e.2.toNat j = sA e.2.toNat e.1.toNat (j + 1) := by
   rcases show j = 0 ∨ j = 1 by omega with rfl | rfl <;> exact ⟨rfl, rfl⟩
 have hAB : (sA e.1.toNat e.2.toNat j = e.1.toNat ∧ sA e.2.toNat e.1.toNat j = e.2.toNat) ∨ (sA e.1.toNat e.2.toNat j = e.2.toNat ∧ sA e.2.toNat e.1.toNat j = e.1.toNat) := by
   rcases sA_cases (a := e.1.toNat) (b := e.2.toNat) h1 with ⟨_, h⟩ | ⟨_, h⟩
   · exact .inl h
   · exact .inr h
 rw [hsw.1, hsw.2]
 rw [hsw.1, hsw.2] at hAB hstep
 generalize eB : sA e.1.toNat e.2.toNat (j + 1) = B at hAB hstep ⊢
 generalize eA : sA e.2.toNat e.1.toNat (j + 1) = A at hAB hstep ⊢
 have hA : A < 7 := by omega
 have hB : B < 7 := by omega
 have hr0 : r A B = false := by
   rcases hAB with ⟨rfl, rfl⟩ | ⟨rfl, rfl⟩
   · exact g4
   · exact g5
 have hlen : l.length = l1.length + (l2.length + 1) := by rw [hw.e]; simp
 have hll := hw.hl
 have hmul : j * 2 ^ l2.length + 2 ^ l2.length ≤ 2 ^ l2.length + 2 ^ l2.length := by
   generalize 2 ^ l2.length = P
   rcases show j = 0 ∨ j = 1 by omega with rfl | rfl
   · omega
   · omega
 have edr : l.drop (l1.length + 1) = l2 := by rw [hw.e, show l1 ++ e :: l2 = (l1 ++ [e]) ++ l2 by simp]; exact List.drop_left' (by simp)
 have etk : l.take (l1.length + 1) = l1 ++ [e] := by rw [hw.e, show l1 ++ e :: l2 = (l1 ++ [e]) ++ l2 by simp]; exact List.take_left' (by simp)
 rw [mkR_set hA, mkR_set hA, edr, upd_back hr0]
 have eg1 : gw n f l2 (rg (mkR (upd r A B true))) = gw n f l2 (upd r A B true) := gw_ext hn (fun _ _ _ _ => rfl) (fun y hy => by have := hw.h2 y (by simp [hy]); exact ⟨this.1, this.2.1⟩) rgm
 have esp : spB n (rg (mkR f)) (rg (mkR (upd r A B true))) A B = sp1 n f r A B := spB_ext hn rgm rgm hA hB
 rw [eg1, esp]
 have iA := i7 hA
 have iB := i7 hB
 refine ⟨iA, iB, ⟨okG_mk hw.n1 hn f, mk_rg _, by simp only; omega, by simp only; omega⟩, fun h2 => ?_, fun h2 => ⟨iA, iB, in1 (by omega), j + 1, ⟨by omega, by omega⟩, ⟨by rw [eB], by rw [eA], by omega⟩, ?_⟩⟩
 · have h2 := nt1 h2
   unfold hf at hstep
   rw [if_neg (by rw [h2]; decide)] at hstep
   have hpos : 0 < 2 ^ l2.length := Nat.two_pow_pos _
   have hwv : v + ps n f l2 r e.1.toNat e.2.toNat j + 2 ^ l2.length ≤ 1000000000 := by omega
   have hwn := okW_next hw hAB (v := v) (w := v + ps n f l2 r e.1.toNat e.2.toNat j) hwv
   generalize 2 ^ l2.length = P at hpos hwv
   clear hv hpl hmul hps hp
   refine ⟨by simp only [inR]; omega, ⟨by simp only; omega, ?_, mk_rg _, by simp only; omega, ?_⟩, iA, iB, in1 (by omega), j + 1, ⟨by omega, by omega⟩, ⟨by rw [eB], by rw [eA], by omega⟩, rfl, by rw [hstep]; omega⟩
   · simp only; omega
   · simp only
     rw [show ((l1.length : Int) + 1).toNat = l1.length + 1 by omega, edr, etk, show ((v : Int) + (ps n f l2 r e.1.toNat e.2.toNat j : Nat)).toNat = v + ps n f l2 r e.1.toNat e.2.toNat j by omega]
     refine ⟨hwn.n1, hwn.hn, hwn.e, fun y hy => ?_, hwn.nd, hwn.hl, hwn.v⟩
     obtain ⟨k1, k2, k3, k4, k5⟩ := hwn.h2 y hy
     rw [rg_mk (by omega) (by omega), rg_mk (by omega) (by omega)]
     exact ⟨k1, k2, k3, k4, k5⟩
 · have h2 := nt0 h2
   unfold hf at hstep
   rw [if_pos h2] at hstep
   exact ⟨rfl, by rw [hstep]; omega⟩
theorem call47Z (n : Nat) (f : RF) (l : LP) : GS n f l 0 := by
 intro l1 l2 r v hd hw
 refine gcall_of (X := (Xm [e48] 6 (fun _ => none))) ((Xm_ok _ _ _)) (f := 47) (fn := Try.f47) (c := bodyOf Try.f47) (by kernel_rfl) (by kernel_rfl) (view := false) (rvs := []) (by kernel_rfl) (H := fun _ => none) 150 (by kernel_rfl) ?_
 refine of_eq (q := (fun (e : Int) => (fun (d : Int) => (fun (c : Prop) => (fun (b : Rl) => (fun (a : Prop) => c ∧ c ∧ c ∧ c ∧ (d = (↑(List.length l) : Int) → c ∧ (b = mkR (rg b) ∧ c) ∧ (trB (rg b) = true → c ∧ inR .i64 ((v : Int) + 1) ∧ c ∧ c ∧ c ∧ l = l ∧ b = b ∧ (v : Int) + 1 = e ∧ a) ∧ (trB (rg b) = false → c ∧ c ∧ l = l ∧ b = b ∧ (v : Int) = e ∧ a)) ∧ (¬d = (↑(List.length l) : Int) → c ∧ c ∧ idxPre d (List.length l) ∧ idxPre (0 : Int) (2 : Nat) ∧ c ∧ c ∧ c ∧ idxPre d (List.length l) ∧ idxPre (1 : Int) (2 : Nat) ∧ c ∧ c ∧ c ∧ c ∧ False)) (c ∧ ((n : Int) = (n : Int) ∧ mkR f = mkR f ∧ c) ∧ (c ∧ c ∧ c ∧ c ∧ c ∧ c ∧ c) ∧ c)) (mkR r)) (True)) ((↑(List.length l1) : Int))) ((v : Int) + (↑(gw n f l2 r) : Int))) (by kernel_rfl) ?_
 simp only [zz]
 have e2 : l2 = [] := List.length_eq_zero_iff.mp hd
 have hv := hw.v
 have hlen : l.length = l1.length := by rw [hw.e, e2]; simp
 subst e2
 rw [trB_ext (rgm (f := r)), gw]
 rw [List.length_nil] at hv
 refine ⟨fun _ => ⟨mk_rg r, fun h => ?_, fun h => ?_⟩, fun h => by omega⟩
 · rw [if_pos h]; exact ⟨by simp only [inR]; omega, by omega⟩
 · rw [if_neg (by rw [h]; decide)]; omega
theorem call47S (n : Nat) (f : RF) (l : LP) (d : Nat) (h : GS n f l d) : GS n f l (d + 1) := by
 intro l1 l2 r v hd hw
 match l2, hd, hw with
 | e :: l2, hd, hw =>
   refine gcall_of (X := (X47 n f l d h)) ((Xm_ok _ _ _)) (f := 47) (fn := Try.f47) (c := bodyOf Try.f47) (by kernel_rfl) (by kernel_rfl) (view := false) (rvs := []) (by kernel_rfl) (H := (fun _ => some (h47 n f l l2 r v l1.length e.1.toNat e.2.toNat))) 150 (by kernel_rfl) ?_
   have hL := fun R => loop47 n f l d h l1 l2 e r v (by simpa using hd) hw R
   refine of_eq (q := (fun (o : Int × Int) => (fun (m : Nat) => (fun (k : Nat) => (fun (j : Int) => (fun (i : Int) => (fun (g : Prop) => (fun (c : Int) => (fun (b : Rl) => (fun (a : Prop) => g ∧ g ∧ g ∧ g ∧ (c = (↑(List.length l) : Int) → g ∧ (b = mkR (rg b) ∧ g) ∧ (trB (rg b) = true → g ∧ inR .i64 (j + 1) ∧ g ∧ g ∧ g ∧ l = l ∧ b = b ∧ j + 1 = i ∧ a) ∧ (trB (rg b) = false → g ∧ g ∧ l = l ∧ b = b ∧ j = i ∧ a)) ∧ (¬c = (↑(List.length l) : Int) → g ∧ g ∧ idxPre c (List.length l) ∧ idxPre (0 : Int) (2 : Nat) ∧ g ∧ g ∧ g ∧ idxPre c (List.length l) ∧ idxPre (1 : Int) (2 : Nat) ∧ g ∧ g ∧ g ∧ g ∧ LoopOK (X47 n f l d h) L47_0 (h47 n f l l2 r v (List.length l1) k m) (RetR (X47 n f l d h) false false [] [] (gG n f l r (v + gw n f (e :: l2) r))) ∧ (∃ (y : Nat), y ≤ 2 ∧ (c = c ∧ g ∧ g ∧ g ∧ o.fst = (↑(sA k m y) : Int) ∧ o.snd = (↑(sA m k y) : Int) ∧ (0 : Int) = (y : Int) ∧ g) ∧ l = l ∧ b = b ∧ j = j + (↑(ps n f l2 r k m y) : Int) ∧ a) ∧ (∀ (y : Unit), g → g ∧ g ∧ l = l ∧ b = b ∧ j + (↑(ps n f l2 r k m (2 : Nat)) : Int) = i ∧ a) ∧ g)) (g ∧ ((n : Int) = (n : Int) ∧ mkR f = mkR f ∧ g) ∧ (g ∧ g ∧ g ∧ g ∧ g ∧ g ∧ g) ∧ g)) (mkR r)) ((↑(List.length l1) : Int))) (True)) (j + (↑(gw n f (e :: l2) r) : Int))) ((v : Int))) (e.fst.toNat)) (e.snd.toNat)) (List.getD l (List.length l1) ((0 : Int), (0 : Int)))) (by kernel_rfl) ?_
   simp only [zz]
   have hlen : l.length = l1.length + (l2.length + 1) := by rw [hw.e]; simp
   have hg : l.getD l1.length (0, 0) = e := by rw [hw.e, List.getD_eq_getElem?_getD, List.getElem?_append_right (Nat.le_refl _)]; simp
   obtain ⟨g1, g2, _⟩ := hw.h2 e (by simp)
   rw [hg]
   refine ⟨fun h => by omega, fun _ => ⟨by unfold idxPre; omega, i02, by unfold idxPre; omega, i12, hL _, ⟨0, by omega, ⟨by show e.1 = (e.1.toNat : Int); omega, by show e.2 = (e.2.toNat : Int); omega, rfl⟩, by simp [ps]⟩, fun _ _ => ?_⟩⟩
   rw [gw, ps, ps, ps]
   unfold hf
   rw [Nat.zero_add]; try rfl
theorem GS_all (n : Nat) (f : RF) (l : LP) : ∀ d, GS n f l d
 | 0 => call47Z n f l
 | d + 1 => call47S n f l d (GS_all n f l d)
/-- The number of orders. -/
def ctN (n : Nat) (l : LP) : Nat := gw n (eg l) (L46 n (eg l)) zf
theorem L46_mem {n : Nat} {f : RF} {y : PA} : y ∈ L46 n f ↔ ∃ a b : Nat, y = ((a : Int), (b : Int)) ∧ a < b ∧ b < n ∧ b < 7 ∧ f a b = true := by
 unfold L46
 rw [prK_mem (by decide)]
 constructor
 · rintro ⟨a, b, h1, h2, h3, h4⟩
   simp only [P46, Bool.and_eq_true, decide_eq_true_eq] at h4
   exact ⟨a, b, h1, h4.1.1, h4.1.2, h2, h4.2⟩
 · rintro ⟨a, b, h1, h2, h3, h5, h4⟩
   exact ⟨a, b, h1, h5, by omega, by unfold P46; rw [decide_eq_true h2, decide_eq_true h3, h4]; rfl⟩
theorem prK_nd {P : RF} {w : Nat} (hw : 0 < w) : ∀ q, (prK P w q).Nodup
 | 0 => by simp [prK]
 | q + 1 => by
   have ih := prK_nd (P := P) hw q
   rw [prK]
   split
   · rw [List.nodup_append]
     refine ⟨ih, by simp, fun a ha b hb e => ?_⟩
     rw [List.mem_singleton] at hb
     rw [e, hb] at ha
     obtain ⟨i, j, h1, h2, h3, _⟩ := (prK_mem hw).mp ha
     have hq : q / w * w + q % w = q := by rw [Nat.mul_comm]; exact Nat.div_add_mod q w
     have e1 : q / w = i := by have := congrArg Prod.fst h1; simp only at this; omega
     have e2 : q % w = j := by have := congrArg Prod.snd h1; simp only at this; omega
     rw [e1, e2] at hq
     omega
   · exact ih
theorem tri_len {P : RF} (hP : ∀ x y, P x y = true → x < y) : (prK P 7 49).length ≤ 21 := by
 have h1 := prK_le (P := fun x y => decide (x < y)) (Q := P) (w := 7) (fun x y h => decide_eq_true (hP x y h)) 49
 have h2 : (prK (fun x y => decide (x < y)) 7 49).length = 21 := by decide +kernel
 omega
theorem okW_0 {n : Nat} (n1 : 1 ≤ n) (hn : n ≤ 7) (f : RF) : okW n f (L46 n f) [] (L46 n f) zf 0 := by
 have hlen : (L46 n f).length ≤ 21 := tri_len fun x y h => by
   simp only [P46, Bool.and_eq_true, decide_eq_true_eq] at h
   exact h.1.1
 refine ⟨n1, hn, rfl, fun y hy => ?_, ?_, hlen, ?_⟩
 · obtain ⟨a, b, h1, h2, h3, _, _⟩ := L46_mem.mp hy
   rw [h1]
   refine ⟨?_, ?_, ?_, rfl, rfl⟩ <;> (simp only; omega)
 · have hnd := prK_nd (P := P46 n f) (w := 7) (by decide) 49
   refine List.Pairwise.imp_of_mem ?_ hnd
   intro y z hy hz hne
   obtain ⟨a, b, h1, h2, _⟩ := L46_mem.mp hy
   obtain ⟨c, d, h3, h4, _⟩ := L46_mem.mp hz
   rw [h1, h3]
   refine ⟨fun h => hne (by rw [h1, h3]; exact Prod.ext h.1 h.2), fun h => ?_⟩
   simp only at h
   omega
 · have := Nat.pow_le_pow_right (show 0 < 2 by omega) hlen
   omega
theorem call11 (n : Nat) (l : LP) (h : grOk n l) (h6 : n ≤ 6) : GCall Try.prog gl 11 false [.int .i64 n, .sl P2 l] [] [.int .i64 (ctN n l), .int .i64 0] [] := by
 refine gcall_of (X := (X [e45, e46, e47 n (eg l) (L46 n (eg l)) (L46 n (eg l)).length (GS_all _ _ _ _)])) ((X_ok _)) (f := 11) (fn := Try.f11) (c := bodyOf Try.f11) (by kernel_rfl) (by kernel_rfl) (view := false) (rvs := [.tmp 4, .tmp 5]) (by kernel_rfl) (H := fun _ => none) 150 (by kernel_rfl) ?_
 obtain ⟨n1, n2⟩ := h.hn
 refine of_eq (q := (fun (h : Int) => (fun (f : LP) => (fun (e : Int) => (fun (d : Rl) => (fun (c : Int) => (fun (b : Prop) => (fun (g : Prop) => (fun (a : List Bool) => (fun (i : List (List Bool)) => b ∧ b ∧ b ∧ b ∧ (grOk e l ∧ b) ∧ b ∧ b ∧ b ∧ b ∧ b ∧ b ∧ b ∧ b ∧ (¬c = c → b ∧ b ∧ b ∧ b ∧ (c = h ∧ c = c ∧ b) ∧ b) ∧ (¬¬c = c → b ∧ b ∧ ((6 : Int) < e → b ∧ b ∧ b ∧ (c = h ∧ (1 : Int) = c ∧ b) ∧ b) ∧ (¬(6 : Int) < e → b ∧ ((okG (e, d) ∧ (b ∧ b) ∧ (e = e ∧ d = d ∧ b) ∧ b) ∧ b ∧ b) ∧ b ∧ b ∧ b ∧ b ∧ b ∧ b ∧ b ∧ b ∧ b ∧ ((ok47 n (eg l) f (List.length f) (c, i, c) ∧ (c = c ∧ g) ∧ L46 n (rg d) = f ∧ i = i ∧ c = c ∧ b ∧ (e = e ∧ d = d ∧ b) ∧ (b ∧ g) ∧ b) ∧ b ∧ g) ∧ b ∧ b ∧ b ∧ b ∧ (c + (↑(gw n (eg l) (List.drop (0 : Nat) f) (rg i)) : Int) = h ∧ c = c ∧ b) ∧ b))) ([a, a, a, a, a, a, a])) ([false, false, false, false, false, false, false])) (b ∧ b ∧ b ∧ b ∧ b ∧ b)) (True)) ((0 : Int))) (mkR (eg l))) ((n : Int))) (L46 n (eg l))) ((↑(ctN n l) : Int))) (by kernel_rfl) ?_
 simp only [zz]
 have hw := okW_0 (n := n) (by omega) (by omega) (eg l)
 have eZ : ([w7, w7, w7, w7, w7, w7, w7] : Rl) = mkR zf := zR.symm
 have hrg : ∀ x y, x < 7 → y < 7 → rg [w7, w7, w7, w7, w7, w7, w7] x y = zf x y := by rw [eZ]; exact rgm
 have h2 : ∀ y, y ∈ L46 n (eg l) → (0 ≤ y.1 ∧ y.1 < 7) ∧ (0 ≤ y.2 ∧ y.2 < 7) := fun y hy => ⟨(hw.h2 y hy).1, (hw.h2 y hy).2.1⟩
 rw [L46_ext (rgm (f := eg l)), List.drop_zero, gw_ext (by omega) (fun _ _ _ _ => rfl) h2 hrg]
 refine ⟨h, fun h1 => absurd trivial h1, fun _ => ⟨fun h1 => by omega, fun _ => ⟨okG_mk (by omega) (by omega) _, ⟨⟨Int.le_refl _, by show (0 : Int).toNat + _ = _; simp, ?_, Int.le_refl _, ?_⟩, rfl⟩, by unfold ctN; omega⟩⟩⟩
 · show [w7, w7, w7, w7, w7, w7, w7] = mkR (rg [w7, w7, w7, w7, w7, w7, w7])
   rw [mkR_ext hrg]; exact eZ
 · show okW n (eg l) _ ((L46 n (eg l)).take 0) ((L46 n (eg l)).drop 0) (rg [w7, w7, w7, w7, w7, w7, w7]) 0
   refine ⟨hw.n1, hw.hn, rfl, fun y hy => ?_, hw.nd, hw.hl, hw.v⟩
   obtain ⟨k1, k2, k3, k4, k5⟩ := hw.h2 y hy
   rw [hrg _ _ (by omega) (by omega), hrg _ _ (by omega) (by omega)]
   exact ⟨k1, k2, k3, k4, k5⟩
end Go.Am.Or

/- Orders: entries; lists that are the same; awake. -/
namespace Go.Am.Or
open Go Go.Am Go.Proofs
theorem toN {n : Int} {l : LP} (h : grOk n l) : ((n.toNat : Nat) : Int) = n := by have := h.hn; omega
theorem toO {n : Int} {l : LP} (h : orOk n l) : ((n.toNat : Nat) : Int) = n := by have := h.hn; omega
def e24 : Entry Try.prog gl := entry2 24 ⟨Try.f24, by kernel_rfl, by kernel_rfl, by kernel_rfl⟩ I64 SP (fun (n : Int) l => grOk n l) false (fun (n : Int) l => [.sl P2 (orL n.toNat l), .bool (orR n.toNat (eg l)).2, .int .i64 0]) (fun _ _ => []) (fun (n : Int) l h => by have := call24 n.toNat l (by rw [toN h]; exact h); rwa [toN h] at this)
def e34 : Entry Try.prog gl := entry2 34 ⟨Try.f34, by kernel_rfl, by kernel_rfl, by kernel_rfl⟩ I64 SP (fun (n : Int) l => grOk n l) false (fun (n : Int) l => [.sl P2 (L46 n.toNat (otR n.toNat (eg l))), .int .i64 0]) (fun _ _ => []) (fun (n : Int) l h => by have := call34 n.toNat l (by rw [toN h]; exact h); rwa [toN h] at this)
def e14 : Entry Try.prog gl := entry2 14 ⟨Try.f14, by kernel_rfl, by kernel_rfl, by kernel_rfl⟩ I64 SP (fun (n : Int) l => grOk n l) false (fun (n : Int) l => [.ar SI 2 [(drL n.toNat l).1, (drL n.toNat l).2], .bool (drB n.toNat l), .int .i64 0]) (fun _ _ => []) (fun (n : Int) l h => by have := call14 n.toNat l (by rw [toN h]; exact h); rwa [toN h] at this)
def e25 : Entry Try.prog gl := entry2 25 ⟨Try.f25, by kernel_rfl, by kernel_rfl, by kernel_rfl⟩ I64 SP (fun (n : Int) l => grOk n l) false (fun (n : Int) l => [.sl P2 (ckL n.toNat l), .bool (ckB n.toNat l), .int .i64 0]) (fun _ _ => []) (fun (n : Int) l h => by have := call25 n.toNat l (by rw [toN h]; exact h); rwa [toN h] at this)
def e11 : Entry Try.prog gl := entry2 11 ⟨Try.f11, by kernel_rfl, by kernel_rfl, by kernel_rfl⟩ I64 SP (fun (n : Int) l => grOk n l ∧ n ≤ 6) false (fun (n : Int) l => [.int .i64 (ctN n.toNat l), .int .i64 0]) (fun _ _ => []) (fun (n : Int) l h => by have := call11 n.toNat l (by rw [toN h.1]; exact h.1) (by have := h.2; omega); rwa [toN h.1] at this)
def e32 : Entry Try.prog gl := entry2 32 ⟨Try.f32, by kernel_rfl, by kernel_rfl, by kernel_rfl⟩ I64 SP (fun (n : Int) l => orOk n l) false (fun (n : Int) l => [.sl I64 (lyS (adL zf l) n.toNat n.toNat), .int .i64 0]) (fun _ _ => []) (fun (n : Int) l h => by have := call32 n.toNat l (by rw [toO h]; exact h); rwa [toO h] at this)
def e35 : Entry Try.prog gl := entry2 35 ⟨Try.f35, by kernel_rfl, by kernel_rfl, by kernel_rfl⟩ I64 SP (fun (n : Int) l => orOk n l) false (fun (n : Int) l => [.ar SI 2 [(rzL n.toNat l).1, (rzL n.toNat l).2], .bool (rzB n.toNat l), .int .i64 0]) (fun _ _ => []) (fun (n : Int) l h => by have := call35 n.toNat l (by rw [toO h]; exact h); rwa [toO h] at this)
def e37 : Entry Try.prog gl := entry2 37 ⟨Try.f37, by kernel_rfl, by kernel_rfl, by kernel_rfl⟩ I64 SP (fun (n : Int) l => orOk n l) true (fun _ _ => [.int .i64 0]) (fun _ _ => []) (fun (n : Int) l h => call37 n l h)
def e20 : Entry Try.prog gl := entry2 20 ⟨Try.f20, by kernel_rfl, by kernel_rfl, by kernel_rfl⟩ I64 (.a2 SI) (fun n l => ok60 n l) false (fun n l => [.sl P2 (dnL n l), .int .i64 (cmE n (l : List Int × List Int).1 l.2)]) (fun _ _ => []) call20
def e21 : Entry Try.prog gl := entry2 21 ⟨Try.f21, by kernel_rfl, by kernel_rfl, by kernel_rfl⟩ I64 (.a2 SI) (fun n l => ok60 n l) false (fun n l => [.sl P2 (cnL n l), .int .i64 (cmE n (l : List Int × List Int).1 l.2)]) (fun _ _ => []) call21
noncomputable def L51_0 : Code := lp (bodyOf Try.f51) 0
def st51 (l m : List Int) (i : Nat) : St := ⟨(.sl I64 l :: .sl I64 m :: dd 3 ++ .int .i64 i :: dd 20), []⟩
def ex51 (l m : List Int) : List (List Nat × Ex) := [([], ⟨0, Unit, fun _ => l = m, fun _ => ⟨(dd 26), []⟩⟩)]
def h51 (l m : List Int) : Hint := ⟨chk 0 [0, 1, 5] (fun i => i ≤ l.length ∧ l.take i = m.take i) (st51 l m), (ex51 l m).map (·.2)⟩
theorem loop51 (l m : List Int) (hl : l.length < 1000000000000000) (he : l.length = m.length) : LoopOK (X []) L51_0 (h51 l m) (RetR (X []) true false [.tmp 4] [.bool (decide (l = m))] []) := by
 refine loop_ok (X_ok _) (H := fun _ _ => none) [0, 1, 5] (fun i => i ≤ l.length ∧ l.take i = m.take i) (st51 l m) (fun i => l.length - i) (ex51 l m) 200 fun (i : Nat) hi => ?_
 refine of_eq (q := (fun (c : Prop) => (fun (b : Prop) => (fun (a : Int) => b ∧ b ∧ b ∧ b ∧ (a < (l.length : Int) → b ∧ b ∧ idxPre a l.length ∧ b ∧ b ∧ b ∧ idxPre a m.length ∧ b ∧ b ∧ (c → b ∧ b ∧ (false = decide (l = m) ∧ b) ∧ b) ∧ (¬c → b ∧ inR .i64 (a + 1) ∧ b ∧ ∃ (y : Nat), ((y ≤ l.length ∧ List.take y l = List.take y m) ∧ l.length - y < l.length - i) ∧ (l = l ∧ m = m ∧ a + 1 = (y : Int) ∧ b) ∧ b)) ∧ (¬a < (l.length : Int) → ∃ (y : Unit), l = m ∧ b ∧ b)) ((i : Int))) (True)) (¬l.getD i (0 : Int) = m.getD i (0 : Int))) (by kernel_rfl) ?_
 simp only [zz]
 obtain ⟨i1, i2⟩ := hi
 refine ⟨fun h1 => ?_, fun h1 => by rwa [List.take_of_length_le (by omega), List.take_of_length_le (by omega)] at i2⟩
 have h1 : i < l.length := by omega
 refine ⟨idx_nat h1, idx_nat (by omega), fun h2 => (decide_eq_false fun e => h2 (by rw [e])).symm, fun h2 => ⟨by simp only [inR]; omega, i + 1, ⟨⟨by omega, ?_⟩, by omega⟩, by omega⟩⟩
 have h2 : l.getD i 0 = m.getD i 0 := Classical.not_not.mp h2
 rw [take_getD (d := 0) h1, take_getD (d := 0) (show i < m.length by omega), i2, h2]
theorem call51 (l m : List Int) (hl : (l : List Int).length < 1000000000000000) : GCall Try.prog gl 51 true [.sl I64 l, .sl I64 m] [] [.bool (decide (l = m))] [] := by
 refine gcall_of (X := (X [])) ((X_ok _)) (f := 51) (fn := Try.f51) (c := bodyOf Try.f51) (by kernel_rfl) (by kernel_rfl) (view := false) (rvs := [.tmp 4]) (by kernel_rfl) (H := (fun _ => some (h51 l m))) 150 (by kernel_rfl) ?_
 have hL := loop51 l m hl
 refine of_eq (q := (fun (c : Prop) => (fun (b : Bool) => (fun (a : Prop) => a ∧ a ∧ a ∧ a ∧ a ∧ a ∧ (c → a ∧ a ∧ (false = b ∧ a) ∧ a) ∧ (¬c → a ∧ LoopOK (X []) L51_0 (h51 l m) (RetR (X []) true false [ResultVar.tmp (4 : Tmp)] [AV.bool b] []) ∧ (∃ (y : Nat), (y ≤ l.length ∧ List.take y l = List.take y m) ∧ (l = l ∧ m = m ∧ (0 : Int) = (y : Int) ∧ a) ∧ a) ∧ (∀ (y : Unit), l = m → a ∧ a ∧ (true = b ∧ a) ∧ a) ∧ a)) (True)) (decide (l = m))) (¬(l.length : Int) = (m.length : Int))) (by kernel_rfl) ?_
 simp only [zz]
 exact ⟨fun h => (decide_eq_false fun e => h (by rw [e])).symm, fun h => ⟨hL (by omega), ⟨0, ⟨Nat.zero_le _, rfl⟩, rfl⟩, fun _ h => (decide_eq_true h).symm⟩⟩
def e51 : Entry Try.prog gl := entry2 51 ⟨Try.f51, by kernel_rfl, by kernel_rfl, by kernel_rfl⟩ SI SI (fun l _ => (l : List Int).length < 1000000000000000) true (fun (l m : List Int) => [.bool (decide (l = m))]) (fun _ _ => []) (call51)
noncomputable def L18_0 : Code := lp (bodyOf Try.f18) 0
def st18 (l m : LP) (i : Nat) : St := ⟨(.sl P2 l :: .sl P2 m :: dd 3 ++ .int .i64 i :: dd 20), []⟩
def ex18 (l m : LP) : List (List Nat × Ex) := [([], ⟨0, Unit, fun _ => l = m, fun _ => ⟨(dd 26), []⟩⟩)]
def h18 (l m : LP) : Hint := ⟨chk 0 [0, 1, 5] (fun i => i ≤ l.length ∧ l.take i = m.take i) (st18 l m), (ex18 l m).map (·.2)⟩
theorem loop18 (l m : LP) (hl : l.length < 1000000000000000) (he : l.length = m.length) : LoopOK (X []) L18_0 (h18 l m) (RetR (X []) true false [.tmp 4] [.bool (decide (l = m))] []) := by
 refine loop_ok (X_ok _) (H := fun _ _ => none) [0, 1, 5] (fun i => i ≤ l.length ∧ l.take i = m.take i) (st18 l m) (fun i => l.length - i) (ex18 l m) 200 fun (i : Nat) hi => ?_
 refine of_eq (q := (fun (d : Prop) => (fun (c : Int × Int) => (fun (b : Int) => (fun (a : Prop) => d ∧ d ∧ d ∧ d ∧ (b < (↑(List.length l) : Int) → d ∧ d ∧ idxPre b (List.length l) ∧ d ∧ d ∧ d ∧ idxPre b (List.length m) ∧ d ∧ d ∧ (a → d ∧ d ∧ (false = decide (l = m) ∧ d) ∧ d) ∧ (¬a → d ∧ inR .i64 (b + 1) ∧ d ∧ ∃ (y : Nat), ((y ≤ List.length l ∧ List.take y l = List.take y m) ∧ List.length l - y < List.length l - i) ∧ (l = l ∧ m = m ∧ b + 1 = (y : Int) ∧ d) ∧ d)) ∧ (¬b < (↑(List.length l) : Int) → ∃ (y : Unit), l = m ∧ d ∧ d)) (¬((List.getD l i c).fst, (List.getD l i c).snd) = ((List.getD m i c).fst, (List.getD m i c).snd))) ((i : Int))) (((0 : Int), (0 : Int)))) (True)) (by kernel_rfl) ?_
 simp only [zz]
 obtain ⟨i1, i2⟩ := hi
 refine ⟨fun h1 => ?_, fun h1 => by rwa [List.take_of_length_le (by omega), List.take_of_length_le (by omega)] at i2⟩
 have h1 : i < l.length := by omega
 refine ⟨idx_nat h1, idx_nat (by omega), fun h2 => (decide_eq_false fun e => h2 (by rw [e])).symm, fun h2 => ⟨by simp only [inR]; omega, i + 1, ⟨⟨by omega, ?_⟩, by omega⟩, by omega⟩⟩
 have h2 : l.getD i (0, 0) = m.getD i (0, 0) := Classical.not_not.mp h2
 rw [take_getD (d := (0, 0)) h1, take_getD (d := (0, 0)) (show i < m.length by omega), i2, h2]
theorem call18 (l m : LP) (hl : (l : LP).length < 1000000000000000) : GCall Try.prog gl 18 true [.sl P2 l, .sl P2 m] [] [.bool (decide (l = m))] [] := by
 refine gcall_of (X := (X [])) ((X_ok _)) (f := 18) (fn := Try.f18) (c := bodyOf Try.f18) (by kernel_rfl) (by kernel_rfl) (view := false) (rvs := [.tmp 4]) (by kernel_rfl) (H := (fun _ => some (h18 l m))) 150 (by kernel_rfl) ?_
 have hL := loop18 l m hl
 refine of_eq (q := (fun (c : Bool) => (fun (b : Prop) => (fun (a : Prop) => b ∧ b ∧ b ∧ b ∧ b ∧ b ∧ (a → b ∧ b ∧ (false = c ∧ b) ∧ b) ∧ (¬a → b ∧ LoopOK (X []) L18_0 (h18 l m) (RetR (X []) true false [ResultVar.tmp (4 : Tmp)] [AV.bool c] []) ∧ (∃ (y : Nat), (y ≤ List.length l ∧ List.take y l = List.take y m) ∧ (l = l ∧ m = m ∧ (0 : Int) = (y : Int) ∧ b) ∧ b) ∧ (∀ (y : Unit), l = m → b ∧ b ∧ (true = c ∧ b) ∧ b) ∧ b)) (¬(↑(List.length l) : Int) = (↑(List.length m) : Int))) (True)) (decide (l = m))) (by kernel_rfl) ?_
 simp only [zz]
 exact ⟨fun h => (decide_eq_false fun e => h (by rw [e])).symm, fun h => ⟨hL (by omega), ⟨0, ⟨Nat.zero_le _, rfl⟩, rfl⟩, fun _ h => (decide_eq_true h).symm⟩⟩
def e18 : Entry Try.prog gl := entry2 18 ⟨Try.f18, by kernel_rfl, by kernel_rfl, by kernel_rfl⟩ SP SP (fun l _ => (l : LP).length < 1000000000000000) true (fun (l m : LP) => [.bool (decide (l = m))]) (fun _ _ => []) (call18)
instance (n : Int) (l : LP) (k : Nat) : Decidable (edOk n l k) := by unfold edOk lt2; infer_instance
instance (n : Int) (l : LP) (k : Nat) : Decidable (arOk n l k) := by unfold arOk lt2; infer_instance
theorem grOk_of {n : Int} {l : LP} (h : (1 ≤ n ∧ n ≤ 7) ∧ (∀ k, k < l.length → edOk n l k) ∧ l.length ≤ 1000) : grOk n l := ⟨h.1, h.2.1, h.2.2⟩
theorem orOk_of {n : Int} {l : LP} (h : (1 ≤ n ∧ n ≤ 7) ∧ (∀ k, k < l.length → arOk n l k) ∧ l.length ≤ 1000 ∧ trB (adL zf l) = true) : orOk n l := ⟨h.1, h.2.1, h.2.2.1, h.2.2.2⟩
abbrev ring : LP := [(0, 1), (0, 4), (1, 2), (2, 3), (3, 4)]
abbrev four : LP := [(0, 1), (0, 3), (1, 2), (2, 3)]
abbrev star : LP := [(0, 1), (0, 2), (0, 3)]
abbrev tw : List Int × List Int := ([0, 1, 2], [2, 0, 1])
theorem call13 : GCall Try.prog gl 13 true [] [] [.tt] [] := by
 have f1 : grOk 5 ring := grOk_of (by decide +kernel)
 have f2 : grOk 4 four := grOk_of (by decide +kernel)
 have f3 : orOk 4 star := orOk_of (by decide +kernel)
 have c1 : (ckL 5 ring).length = 6 := by decide +kernel
 have c2 : ckB 5 ring = true := by decide +kernel
 have c3 : (orR 5 (eg ring)).2 = false := by decide +kernel
 have c4 : ctN 4 four = 2 := by decide +kernel
 have c5 : lyS (adL zf star) 4 4 = [0, 1, 1, 1] := by decide +kernel
 have c6 : dnL 3 tw = [(0, 2), (1, 2)] := by decide +kernel
 have c7 : cmE 3 tw.1 tw.2 = 0 := by decide +kernel
 have c8 : cnL 3 tw = [(0, 1)] := by decide +kernel
 have o1 : ok60 3 tw := ⟨by decide, by decide⟩
 refine gcall_of (X := X [e25, e24, e11, e32, e20, e21, e51, e18]) (X_ok [e25, e24, e11, e32, e20, e21, e51, e18]) (f := 13) (fn := Try.f13) (c := bodyOf Try.f13) (by kernel_rfl) (by kernel_rfl) (view := false) (rvs := [.tmp 0]) (by kernel_rfl) (H := fun _ => none) 200 (by kernel_rfl) ?_
 refine of_eq (q := (fun (s : Int) => (fun (o : Prop) => (fun (m : Prop) => (fun (j : Int) => (fun (h : Int) => (fun (g : Int) => (fun (c : Int) => (fun (r : Prop) => (fun (l : List Int × List Int) => (fun (k : Prop) => (fun (e : Prop) => (fun (d : List (Int × Int)) => (fun (p : Prop) => (fun (b : Prop) => (fun (f : Prop) => (fun (n : Prop) => (fun (a : Prop) => (fun (i : Prop) => (fun (q : Prop) => b ∧ b ∧ b ∧ b ∧ b ∧ b ∧ b ∧ b ∧ b ∧ (grOk (5 : Int) d ∧ b) ∧ b ∧ b ∧ b ∧ b ∧ b ∧ b ∧ b ∧ b ∧ (grOk (5 : Int) d ∧ b) ∧ b ∧ b ∧ b ∧ b ∧ b ∧ b ∧ b ∧ b ∧ b ∧ b ∧ b ∧ b ∧ ((grOk s [(c, h), (c, j), (h, g), (g, j)] ∧ s ≤ 6) ∧ b) ∧ b ∧ b ∧ b ∧ b ∧ b ∧ b ∧ b ∧ b ∧ b ∧ (orOk s [(c, h), (c, g), (c, j)] ∧ b) ∧ b ∧ b ∧ b ∧ b ∧ b ∧ b ∧ b ∧ b ∧ (ok60 j l ∧ b) ∧ b ∧ b ∧ b ∧ b ∧ b ∧ b ∧ b ∧ b ∧ (ok60 j l ∧ b) ∧ b ∧ b ∧ b ∧ b ∧ b ∧ b ∧ b ∧ b ∧ (r → b ∧ b ∧ b ∧ (m → b ∧ b ∧ b ∧ b ∧ b ∧ (p → b ∧ b ∧ b ∧ b ∧ (r → b ∧ b ∧ b ∧ b ∧ (m → b ∧ b ∧ b ∧ b ∧ (r → b ∧ b ∧ b ∧ b ∧ (k → b ∧ b ∧ b ∧ b ∧ (r → b ∧ b ∧ ((lyS (adL zf [(c, h), (c, g), (c, j)]) (4 : Nat) (4 : Nat)).length + 1 ≤ 1000000000000000 ∧ b) ∧ b ∧ b ∧ (m → b ∧ b ∧ b ∧ b ∧ (e → b ∧ b ∧ b ∧ b ∧ (List.length (dnL j l) + 1 ≤ 1000000000000000 ∧ b) ∧ b ∧ b ∧ (m → b ∧ b ∧ b ∧ b ∧ (e → b ∧ b ∧ b ∧ (List.length (cnL j l) + 1 ≤ 1000000000000000 ∧ b) ∧ b ∧ b ∧ b ∧ (m ∧ b) ∧ b) ∧ (¬e → f)) ∧ (o → b ∧ b ∧ f)) ∧ (¬e → n)) ∧ (o → b ∧ b ∧ n)) ∧ (¬r → a)) ∧ (¬k → b ∧ b ∧ a)) ∧ (¬r → b ∧ b ∧ b ∧ b ∧ a)) ∧ (o → i)) ∧ (¬r → b ∧ b ∧ i)) ∧ (¬p → q)) ∧ (o → b ∧ b ∧ q)) ∧ (¬r → b ∧ b ∧ b ∧ b ∧ q)) (b ∧ b ∧ b ∧ b ∧ i)) (b ∧ b ∧ b ∧ b ∧ b ∧ b ∧ a)) (b ∧ b ∧ b ∧ b ∧ n)) (b ∧ b ∧ b ∧ b ∧ f)) (b ∧ b ∧ b ∧ (false = true ∧ b) ∧ b)) (True)) ((↑(List.length (ckL (5 : Nat) d)) : Int) = 6)) ([(c, h), (c, s), (h, g), (g, j), (j, s)])) (cmE j [c, h, g] [g, c, h] = c)) ((↑(ctN (4 : Nat) [(c, h), (c, j), (h, g), (g, j)]) : Int) = g)) (([c, h, g], [g, c, h]))) (c = c)) ((0 : Int))) ((2 : Int))) ((1 : Int))) ((3 : Int))) (true = true)) (true = false)) ((4 : Int))) (by kernel_rfl) ?_
 simp only [zz]
 refine ⟨f1, f1, ⟨f2, by decide⟩, f3, o1, o1, ?_⟩
 rw [c1, c4, c5, c6, c7, c8]
 simp
def e13 : Entry Try.prog gl where
 f := 13
 lend := false
 en := ⟨Try.f13, by kernel_rfl, by kernel_rfl, by kernel_rfl⟩
 go := fun args ob0 => match args, ob0 with
   | [], [] => some (True, true, [.tt], [])
   | _, _ => none
 ok := by
   intro args ob0 p s r o h hp
   split at h <;> try (cases h; done)
   injection h with h; injection h with h1 h2; injection h2 with h2 h3; injection h3 with h3 h4
   subst h1 h2 h3 h4
   exact call13
end Go.Am.Or

/- Orders: tame. -/
namespace Go.Am.Or
open Go Go.Am Go.Proofs
theorem u64_nn (x : Int) : 0 ≤ modU .u64 x := by
 show 0 ≤ x % 18446744073709551616
 omega
def tmc (m : Nat) (x : Int) : Int := (modU .u64 x).tmod m
theorem tmc_bd {m : Nat} (hm : 1 ≤ m) (x : Int) : 0 ≤ tmc m x ∧ tmc m x < m := ⟨Int.tmod_nonneg _ (u64_nn x), Int.tmod_lt_of_pos _ (by omega)⟩
noncomputable abbrev X10 : Cy := Xw [] fun t => Nat.beq t 15 || (Nat.beq t 48 || Nat.beq t 58)
def hiB (m : Nat) (l : LP) (a b i : Nat) : Bool := decide (minI (tmc m (l.getD i (0, 0)).1) (tmc m (l.getD i (0, 0)).2) = (a : Int)) && decide (maxI (tmc m (l.getD i (0, 0)).1) (tmc m (l.getD i (0, 0)).2) = (b : Int))
def hiT (m : Nat) (l : LP) (a b : Nat) : Bool := (List.range (min l.length 25)).any (hiB m l a b)
def tmM (n : Int) (most : Nat) : Nat := (1 + tmc most n).toNat
def tmL (m : Nat) (l : LP) : LP := L46 m (hiT m l)
theorem hiT_yes {m : Nat} {l : LP} {a b i : Nat} (h1 : i < l.length) (h2 : i < 25) (h : hiB m l a b i = true) : hiT m l a b = true := List.any_eq_true.mpr ⟨i, by simp; omega, h⟩
theorem hiT_no {m : Nat} {l : LP} {a b : Nat} (h : ∀ j, j < l.length → j < 25 → hiB m l a b j = false) : hiT m l a b = false := by
 unfold hiT
 rw [List.any_eq_false]
 intro j hj
 have hj := List.mem_range.mp hj
 rw [h j (by omega) (by omega)]; decide
noncomputable def L10_0 : Code := lp (bodyOf Try.f10) 0
noncomputable def L10_2 : Code := lp (bodyOf Try.f10) 2
noncomputable def L10_4 : Code := lp (bodyOf Try.f10) 4
abbrev PT (m : Nat) (l : LP) : RF := P46 m (hiT m l)
def cz10 (m : Nat) (l : LP) (a b i : Nat) : St := ⟨(.int .i64 m :: .sl P2 l :: dd 6 ++ nl :: .int .i64 a :: .int .i64 b :: .int .i64 i :: dd 71), []⟩
def ct10 (m : Nat) (l : LP) (a b i : Nat) : St := ⟨(.int .i64 m :: .sl P2 l :: dd 6 ++ .own 0 0 :: .int .i64 a :: .int .i64 b :: .int .i64 i :: dd 71), [.sc 0 52 P2 (prK (PT m l) 7 (a * 7 + b))]⟩
def bz10 (m : Nat) (l : LP) (a b : Nat) : St := ⟨(.int .i64 m :: .sl P2 l :: dd 6 ++ nl :: .int .i64 a :: .int .i64 b :: dd 72), []⟩
def bt10 (m : Nat) (l : LP) (a : Nat) (r : LP) (b : Nat) : St := ⟨(.int .i64 m :: .sl P2 l :: dd 6 ++ .own 0 0 :: .int .i64 a :: .int .i64 b :: dd 72), [.sc 0 52 P2 r]⟩
def noH (m : Nat) (l : LP) (a b i : Nat) : Prop := ∀ j, j < i → hiB m l a b j = false
def xcz (m : Nat) (l : LP) (a b : Nat) : List (List Nat × Ex) := [([0, 1, 8, 9, 10], ⟨4, Unit, fun _ => hiT m l a b = false, fun _ => bz10 m l a b⟩), ([0, 1, 8, 9, 10], ⟨4, Unit, fun _ => hiT m l a b = true, fun _ => bt10 m l a [((a : Int), (b : Int))] b⟩)]
def xct (m : Nat) (l : LP) (a b : Nat) : List (List Nat × Ex) := [([0, 1, 8, 9, 10], ⟨4, Unit, fun _ => hiT m l a b = false, fun _ => bt10 m l a (prK (PT m l) 7 (a * 7 + b)) b⟩), ([0, 1, 8, 9, 10], ⟨4, Unit, fun _ => hiT m l a b = true, fun _ => bt10 m l a (prK (PT m l) 7 (a * 7 + b) ++ [((a : Int), (b : Int))]) b⟩)]
def hcz (m : Nat) (l : LP) (a b : Nat) : Hint := ⟨chk 0 [0, 1, 8, 9, 10, 11] (fun i => (i ≤ l.length ∧ i ≤ 25) ∧ noH m l a b i) (cz10 m l a b), (xcz m l a b).map (·.2)⟩
def hct (m : Nat) (l : LP) (a b : Nat) : Hint := ⟨chk 0 [0, 1, 8, 9, 10, 11] (fun i => (i ≤ l.length ∧ i ≤ 25) ∧ noH m l a b i) (ct10 m l a b), (xct m l a b).map (·.2)⟩
theorem tm_rg {m : Nat} (m1 : 1 ≤ m) (hm : m ≤ 7) (x : Int) : inR .i64 (tmc m x) := by
 have := tmc_bd m1 x
 simp only [inR]; omega
theorem noH_next {m : Nat} {l : LP} {a b i : Nat} (h : noH m l a b i) (h2 : hiB m l a b i = false) : noH m l a b (i + 1) := fun j hj => by
 by_cases e : j = i
 · rw [e]; exact h2
 · exact h j (by omega)
theorem loop10cz (m : Nat) (m1 : 1 ≤ m) (hm : m ≤ 7) (l : LP) (hl : l.length < 1000000000000000) (a b : Nat) (R : Exit → St → Prop) : LoopOK X10 L10_4 (hcz m l a b) R := by
 refine loop_ok (Xw_ok _ _) (H := fun _ _ => none) [0, 1, 8, 9, 10, 11] (fun i => (i ≤ l.length ∧ i ≤ 25) ∧ noH m l a b i) (cz10 m l a b) (fun i => l.length - i) (xcz m l a b) 200 fun (i : Nat) hi => ?_
 refine of_eq (q := (fun (q : Int) => (fun (p : Bool) => (fun (o : Int) => (fun (n : Int) => (fun (k : Int) => (fun (j : Prop) => (fun (h : Int) => (fun (g : Prop) => (fun (r : Prop) => (fun (f : Int) => (fun (e : Int) => (fun (d : Prop) => (fun (c : Prop) => j ∧ j ∧ j ∧ j ∧ j ∧ (o < (↑(List.length l) : Int) → j ∧ j ∧ j ∧ (o < 25 → j ∧ j ∧ idxPre o (List.length l) ∧ idxPre q (2 : Nat) ∧ j ∧ j ∧ j ∧ inR .u64 h ∧ ¬h = q ∧ inR .i64 f ∧ j ∧ j ∧ idxPre o (List.length l) ∧ idxPre (1 : Int) (2 : Nat) ∧ j ∧ j ∧ j ∧ inR .u64 h ∧ ¬h = q ∧ inR .i64 e ∧ j ∧ j ∧ j ∧ j ∧ j ∧ j ∧ j ∧ j ∧ (minI f e = n → j ∧ j ∧ j ∧ j ∧ j ∧ j ∧ (maxI f e = k → j ∧ j ∧ j ∧ j ∧ j ∧ sumPre (0 : Nat) [(n, k)].length (nat_lit 16) ∧ j ∧ ((∃ (y : Unit), p = false ∧ r ∧ j) ∨ ∃ (y : Unit), p = true ∧ (h = h ∧ l = l ∧ j ∧ g) ∧ [(n, k)] = [(n, k)] ∧ j)) ∧ (¬maxI f e = k → c)) ∧ (¬minI f e = n → j ∧ c)) ∧ (¬o < 25 → d)) ∧ (¬o < (↑(List.length l) : Int) → j ∧ d)) (j ∧ inR .i64 (o + 1) ∧ j ∧ ∃ (y : Nat), (((y ≤ List.length l ∧ y ≤ 25) ∧ noH m l a b y) ∧ List.length l - y < List.length l - i) ∧ (h = h ∧ l = l ∧ j ∧ n = n ∧ k = k ∧ o + 1 = (y : Int) ∧ j) ∧ j)) ((∃ (y : Unit), p = false ∧ (h = h ∧ l = l ∧ j ∧ g) ∧ j) ∨ ∃ (y : Unit), p = true ∧ r ∧ False)) ((modU .u64 (List.getD l i (q, q)).snd).tmod h)) ((modU .u64 (List.getD l i (q, q)).fst).tmod h)) (h = h ∧ l = l ∧ False ∧ g)) (n = n ∧ k = k ∧ j)) ((m : Int))) (True)) ((b : Int))) ((a : Int))) ((i : Int))) (hiT m l a b)) ((0 : Int))) (by kernel_rfl) ?_
 simp only [zz]
 obtain ⟨⟨i1, i2⟩, i3⟩ := hi
 have um : inR .u64 (m : Int) := by simp only [inR]; omega
 have m0 : ¬ (m : Int) = 0 := by omega
 have r1 := tm_rg m1 hm (l.getD i (0, 0)).1
 have r2 := tm_rg m1 hm (l.getD i (0, 0)).2
 unfold tmc at r1 r2
 have hB : hiB m l a b i = (decide (minI ((modU .u64 (l.getD i (0, 0)).1).tmod m) ((modU .u64 (l.getD i (0, 0)).2).tmod m) = (a : Int)) && decide (maxI ((modU .u64 (l.getD i (0, 0)).1).tmod m) ((modU .u64 (l.getD i (0, 0)).2).tmod m) = (b : Int))) := rfl
 have nx : hiB m l a b i = false → i < l.length → i < 25 → inR .i64 ((i : Int) + 1) ∧ ∃ y : Nat, (((y ≤ l.length ∧ y ≤ 25) ∧ noH m l a b y) ∧ l.length - y < l.length - i) ∧ (i : Int) + 1 = (y : Int) := fun h h1 h2 => ⟨in1 (by omega), i + 1, ⟨⟨⟨by omega, by omega⟩, noH_next i3 h⟩, by omega⟩, by omega⟩
 have none1 : ¬ i < 25 ∨ ¬ i < l.length → hiT m l a b = false := fun h => hiT_no fun j h1 h2 => i3 j (by omega)
 refine ⟨fun h1 => ⟨fun h2 => ?_, fun h2 => none1 (.inl (by omega))⟩, fun h1 => none1 (.inr (by omega))⟩
 have h1 : i < l.length := by omega
 have h2 : i < 25 := by omega
 have ii := idx_nat h1
 refine ⟨ii, i02, um, m0, r1, ii, i12, um, m0, r2, fun h3 => ⟨fun h4 => ⟨by simp [sumPre], hiT_yes h1 h2 ?_⟩, fun h4 => nx ?_ h1 h2⟩, fun h3 => nx ?_ h1 h2⟩
 · rw [hB, decide_eq_true h3, decide_eq_true h4]; try rfl
 · rw [hB, decide_eq_false h4, Bool.and_false]
 · rw [hB, decide_eq_false h3, Bool.false_and]
theorem loop10ct (m : Nat) (m1 : 1 ≤ m) (hm : m ≤ 7) (l : LP) (hl : l.length < 1000000000000000) (a b : Nat) (hb : a * 7 + b < 1000) (R : Exit → St → Prop) : LoopOK X10 L10_4 (hct m l a b) R := by
 refine loop_ok (Xw_ok _ _) (H := fun _ _ => none) [0, 1, 8, 9, 10, 11] (fun i => (i ≤ l.length ∧ i ≤ 25) ∧ noH m l a b i) (ct10 m l a b) (fun i => l.length - i) (xct m l a b) 200 fun (i : Nat) hi => ?_
 refine of_eq (q := (fun (r : Int) => (fun (q : Bool) => (fun (p : Int) => (fun (o : Int) => (fun (n : Int) => (fun (k : Int) => (fun (j : Prop) => (fun (g : Int) => (fun (f : Int) => (fun (d : Prop) => (fun (c : LP) => (fun (h : Prop) => (fun (e : Prop) => j ∧ j ∧ j ∧ j ∧ j ∧ (p < (↑(List.length l) : Int) → j ∧ j ∧ j ∧ (p < 25 → j ∧ j ∧ idxPre p (List.length l) ∧ idxPre r (2 : Nat) ∧ j ∧ j ∧ j ∧ inR .u64 o ∧ ¬o = r ∧ inR .i64 f ∧ j ∧ j ∧ idxPre p (List.length l) ∧ idxPre (1 : Int) (2 : Nat) ∧ j ∧ j ∧ j ∧ inR .u64 o ∧ ¬o = r ∧ inR .i64 g ∧ j ∧ j ∧ j ∧ j ∧ j ∧ j ∧ j ∧ j ∧ (minI f g = n → j ∧ j ∧ j ∧ j ∧ j ∧ j ∧ (maxI f g = k → j ∧ j ∧ j ∧ j ∧ j ∧ sumPre (List.length c) [(n, k)].length (nat_lit 16) ∧ j ∧ ((∃ (y : Unit), q = false ∧ d ∧ c ++ [(n, k)] = c ∧ j) ∨ ∃ (y : Unit), q = true ∧ d ∧ c ++ [(n, k)] = c ++ [(n, k)] ∧ j)) ∧ (¬maxI f g = k → e)) ∧ (¬minI f g = n → j ∧ e)) ∧ (¬p < 25 → h)) ∧ (¬p < (↑(List.length l) : Int) → j ∧ h)) (j ∧ inR .i64 (p + 1) ∧ j ∧ ∃ (y : Nat), (((y ≤ List.length l ∧ y ≤ 25) ∧ noH m l a b y) ∧ List.length l - y < List.length l - i) ∧ (o = o ∧ l = l ∧ j ∧ n = n ∧ k = k ∧ p + 1 = (y : Int) ∧ j) ∧ c = c ∧ j)) ((∃ (y : Unit), q = false ∧ d ∧ c = c ∧ j) ∨ ∃ (y : Unit), q = true ∧ d ∧ c = c ++ [(n, k)] ∧ j)) (prK (PT m l) (7 : Nat) (a * 7 + b))) (o = o ∧ l = l ∧ j ∧ n = n ∧ k = k ∧ j)) ((modU .u64 (List.getD l i (r, r)).fst).tmod o)) ((modU .u64 (List.getD l i (r, r)).snd).tmod o)) (True)) ((b : Int))) ((a : Int))) ((m : Int))) ((i : Int))) (hiT m l a b)) ((0 : Int))) (by kernel_rfl) ?_
 simp only [zz]
 obtain ⟨⟨i1, i2⟩, i3⟩ := hi
 have um : inR .u64 (m : Int) := by simp only [inR]; omega
 have m0 : ¬ (m : Int) = 0 := by omega
 have r1 := tm_rg m1 hm (l.getD i (0, 0)).1
 have r2 := tm_rg m1 hm (l.getD i (0, 0)).2
 unfold tmc at r1 r2
 have hB : hiB m l a b i = (decide (minI ((modU .u64 (l.getD i (0, 0)).1).tmod m) ((modU .u64 (l.getD i (0, 0)).2).tmod m) = (a : Int)) && decide (maxI ((modU .u64 (l.getD i (0, 0)).1).tmod m) ((modU .u64 (l.getD i (0, 0)).2).tmod m) = (b : Int))) := rfl
 have nx : hiB m l a b i = false → i < l.length → i < 25 → inR .i64 ((i : Int) + 1) ∧ ∃ y : Nat, (((y ≤ l.length ∧ y ≤ 25) ∧ noH m l a b y) ∧ l.length - y < l.length - i) ∧ (i : Int) + 1 = (y : Int) := fun h h1 h2 => ⟨in1 (by omega), i + 1, ⟨⟨⟨by omega, by omega⟩, noH_next i3 h⟩, by omega⟩, by omega⟩
 have none1 : ¬ i < 25 ∨ ¬ i < l.length → hiT m l a b = false := fun h => hiT_no fun j h1 h2 => i3 j (by omega)
 have hlen := prK_len (PT m l) 7 (a * 7 + b)
 refine ⟨fun h1 => ⟨fun h2 => ?_, fun h2 => .inl (none1 (.inl (by omega)))⟩, fun h1 => .inl (none1 (.inr (by omega)))⟩
 have h1 : i < l.length := by omega
 have h2 : i < 25 := by omega
 have ii := idx_nat h1
 refine ⟨ii, i02, um, m0, r1, ii, i12, um, m0, r2, fun h3 => ⟨fun h4 => ⟨by unfold sumPre; simp; omega, ?_⟩, fun h4 => nx ?_ h1 h2⟩, fun h3 => nx ?_ h1 h2⟩
 · have hy : hiT m l a b = true := hiT_yes h1 h2 (by rw [hB, decide_eq_true h3, decide_eq_true h4] <;> rfl)
   first | exact .inr ⟨hy, rfl⟩ | exact .inr hy
 · rw [hB, decide_eq_false h4, Bool.and_false]
 · rw [hB, decide_eq_false h3, Bool.false_and]
def az10 (m : Nat) (l : LP) (a : Nat) : St := ⟨(.int .i64 m :: .sl P2 l :: dd 6 ++ nl :: .int .i64 a :: dd 73), []⟩
def at10 (m : Nat) (l : LP) (a : Nat) (r : LP) : St := ⟨(.int .i64 m :: .sl P2 l :: dd 6 ++ .own 0 0 :: .int .i64 a :: dd 73), [.sc 0 52 P2 r]⟩
def fb10 (m : Nat) (l : LP) (a : Nat) : List Fam := [⟨Nat, fun b => (a < b ∧ b ≤ m) ∧ prK (PT m l) 7 (a * 7 + b) = [], bz10 m l a, fun b => m - b, fun b _ => some (hcz m l a b)⟩, ⟨Nat, fun b => a < b ∧ b ≤ m, fun b => bt10 m l a (prK (PT m l) 7 (a * 7 + b)) b, fun b => m - b, fun b _ => some (hct m l a b)⟩]
def xb10 (m : Nat) (l : LP) (a : Nat) : List (List Nat × Ex) := [([0, 1, 8, 9], ⟨2, Unit, fun _ => prK (PT m l) 7 (a * 7 + m) = [], fun _ => az10 m l a⟩), ([0, 1, 8, 9], ⟨2, Unit, fun _ => True, fun _ => at10 m l a (prK (PT m l) 7 (a * 7 + m))⟩)]
def hb10 (m : Nat) (l : LP) (a : Nat) : Hint := ⟨chks 0 [0, 1, 8, 9, 10] (fb10 m l a), (xb10 m l a).map (·.2)⟩
theorem loop10b (m : Nat) (m1 : 1 ≤ m) (hm : m ≤ 7) (l : LP) (hl : l.length < 1000000000000000) (a : Nat) (ha : a < m) (R : Exit → St → Prop) : LoopOK X10 L10_2 (hb10 m l a) R := by
 have hP : ∀ b, a < b → b < m → PT m l a b = hiT m l a b := fun b h1 h2 => by show (decide (a < b) && decide (b < m) && hiT m l a b) = _; rw [decide_eq_true h1, decide_eq_true h2]; try rfl
 refine loop_fams (Xw_ok _ _) [0, 1, 8, 9, 10] (fb10 m l a) (xb10 m l a) 200 ⟨fun (b : Nat) hb => ?_, fun (b : Nat) hb => ?_, trivial⟩
 · have hL := fun R => loop10cz m m1 hm l hl a b R
   refine of_eq (q := (fun (j : Prop) => (fun (h : Nat) => (fun (g : Int) => (fun (f : Prop) => (fun (e : Int) => (fun (d : Int) => (fun (i : Prop) => (fun (c : Int) => (fun (k : Prop) => f ∧ f ∧ f ∧ (g < c → f ∧ LoopOK X10 L10_4 (hcz m l a b) (bodyR (Xw [] fun (t : Nat) => t.beq (15 : Nat) || (t.beq (48 : Nat) || t.beq (58 : Nat))).m0 (xb10 m l a) R) ∧ (∃ (y : Nat), ((y ≤ List.length l ∧ y ≤ 25) ∧ noH m l a b y) ∧ (k ∧ j ∧ f ∧ i ∧ g = g ∧ (0 : Int) = (y : Int) ∧ f) ∧ f) ∧ (∀ (y : Unit), hiT m l a b = false → f ∧ inR .i64 e ∧ f ∧ ((∃ (y : Nat), (((a < y ∧ y ≤ m) ∧ prK (PT m l) h (a * h + y) = []) ∧ m - y < m - b) ∧ (k ∧ j ∧ f ∧ i ∧ e = (y : Int) ∧ f) ∧ f) ∨ ∃ (y : Nat), ((a < y ∧ y ≤ m) ∧ m - y < m - b) ∧ (k ∧ j ∧ False ∧ i ∧ e = (y : Int) ∧ f) ∧ False)) ∧ (∀ (y : Unit), hiT m l a b = true → f ∧ inR .i64 e ∧ f ∧ ((∃ (y : Nat), (((a < y ∧ y ≤ m) ∧ prK (PT m l) h (a * h + y) = []) ∧ m - y < m - b) ∧ (k ∧ j ∧ False ∧ i ∧ e = (y : Int) ∧ f) ∧ f) ∨ ∃ (y : Nat), ((a < y ∧ y ≤ m) ∧ m - y < m - b) ∧ (k ∧ j ∧ f ∧ i ∧ e = (y : Int) ∧ f) ∧ [(d, g)] = prK (PT m l) h (a * h + y) ∧ f)) ∧ f) ∧ (¬g < c → (∃ (y : Unit), prK (PT m l) h (a * h + m) = [] ∧ (k ∧ j ∧ f ∧ i ∧ f) ∧ f) ∨ ∃ (y : Unit), f ∧ (k ∧ j ∧ False ∧ i ∧ f) ∧ False)) (c = c)) ((m : Int))) (d = d)) ((a : Int))) (g + 1)) (True)) ((b : Int))) ((7 : Nat))) (l = l)) (by kernel_rfl) ?_
   simp only [zz]
   obtain ⟨b1, b2⟩ := hb
   refine ⟨fun h1 => ?_, fun h1 => by rwa [show b = m by omega] at b2⟩
   have h1 : b < m := by omega
   have hst := prK_step (P := PT m l) (i := a) (j := b) (w := 7) (by omega)
   rw [hP b b1.1 h1] at hst
   refine ⟨hL _, ⟨0, ⟨⟨Nat.zero_le _, by omega⟩, fun j hj => absurd hj (Nat.not_lt_zero _)⟩, rfl⟩, fun _ h2 => ⟨in1 (by omega), b + 1, ⟨⟨by omega, ?_⟩, by omega⟩, by omega⟩, fun _ h2 => ⟨in1 (by omega), b + 1, ⟨by omega, by omega⟩, by omega, ?_⟩⟩
   · rw [hst, if_neg (by rw [h2]; decide)]; exact b2
   · rw [hst, if_pos h2, b2]; try rfl
 · have hL := fun h R => loop10ct m m1 hm l hl a b h R
   refine of_eq (q := (fun (i : Prop) => (fun (h : Nat) => (fun (k : LP) => (fun (g : Int) => (fun (j : Int) => (fun (f : Int) => (fun (e : Int) => (fun (d : LP) => (fun (c : Prop) => i ∧ i ∧ i ∧ (g < e → i ∧ LoopOK X10 L10_4 (hct m l a b) (bodyR (Xw [] fun (t : Nat) => t.beq (15 : Nat) || (t.beq (48 : Nat) || t.beq (58 : Nat))).m0 (xb10 m l a) R) ∧ (∃ (y : Nat), ((y ≤ List.length l ∧ y ≤ 25) ∧ noH m l a b y) ∧ (e = e ∧ l = l ∧ i ∧ f = f ∧ g = g ∧ (0 : Int) = (y : Int) ∧ i) ∧ d = d ∧ i) ∧ (∀ (y : Unit), hiT m l a b = false → i ∧ inR .i64 j ∧ i ∧ (c ∨ ∃ (y : Nat), ((a < y ∧ y ≤ m) ∧ m - y < m - b) ∧ (e = e ∧ l = l ∧ i ∧ f = f ∧ j = (y : Int) ∧ i) ∧ d = prK (PT m l) h (a * h + y) ∧ i)) ∧ (∀ (y : Unit), hiT m l a b = true → i ∧ inR .i64 j ∧ i ∧ (c ∨ ∃ (y : Nat), ((a < y ∧ y ≤ m) ∧ m - y < m - b) ∧ (e = e ∧ l = l ∧ i ∧ f = f ∧ j = (y : Int) ∧ i) ∧ d ++ [(f, g)] = prK (PT m l) h (a * h + y) ∧ i)) ∧ i) ∧ (¬g < e → (∃ (y : Unit), k = [] ∧ (e = e ∧ l = l ∧ False ∧ f = f ∧ i) ∧ i) ∨ ∃ (y : Unit), i ∧ (e = e ∧ l = l ∧ i ∧ f = f ∧ i) ∧ d = k ∧ i)) (∃ (y : Nat), (((a < y ∧ y ≤ m) ∧ prK (PT m l) h (a * h + y) = []) ∧ m - y < m - b) ∧ (e = e ∧ l = l ∧ False ∧ f = f ∧ j = (y : Int) ∧ i) ∧ i)) (prK (PT m l) h (a * h + b))) ((m : Int))) ((a : Int))) (g + 1)) ((b : Int))) (prK (PT m l) h (a * h + m))) ((7 : Nat))) (True)) (by kernel_rfl) ?_
   simp only [zz]
   have b1 : a < b ∧ b ≤ m := hb
   refine ⟨fun h1 => ?_, fun h1 => by rw [show b = m by omega]⟩
   have h1 : b < m := by omega
   have hst := prK_step (P := PT m l) (i := a) (j := b) (w := 7) (by omega)
   rw [hP b b1.1 h1] at hst
   refine ⟨hL (by omega) _, ⟨0, ⟨⟨Nat.zero_le _, by omega⟩, fun j hj => absurd hj (Nat.not_lt_zero _)⟩, rfl⟩, fun _ h2 => ⟨in1 (by omega), b + 1, ⟨by omega, by omega⟩, by omega, ?_⟩, fun _ h2 => ⟨in1 (by omega), b + 1, ⟨by omega, by omega⟩, by omega, ?_⟩⟩
   · rw [hst, if_neg (by rw [h2]; decide)]
   · rw [hst, if_pos h2]
def fa10 (m : Nat) (l : LP) : List Fam := [⟨Nat, fun a => a ≤ m ∧ prK (PT m l) 7 (a * 7) = [], az10 m l, fun a => m - a, fun a _ => some (hb10 m l a)⟩, ⟨Nat, fun a => a ≤ m, fun a => at10 m l a (prK (PT m l) 7 (a * 7)), fun a => m - a, fun a _ => some (hb10 m l a)⟩]
def xa10 (m : Nat) (l : LP) : List (List Nat × Ex) := [([0, 8], ⟨0, Unit, fun _ => tmL m l = [], fun _ => ⟨(.int .i64 m :: dd 7 ++ nl :: dd 74), []⟩⟩), ([0, 8], ⟨0, Unit, fun _ => True, fun _ => ⟨(.int .i64 m :: dd 7 ++ .own 0 0 :: dd 74), [.sc 0 52 P2 (tmL m l)]⟩⟩)]
def ha10 (m : Nat) (l : LP) : Hint := ⟨chks 0 [0, 1, 8, 9] (fa10 m l), (xa10 m l).map (·.2)⟩
theorem loop10a (m : Nat) (m1 : 1 ≤ m) (hm : m ≤ 7) (l : LP) (hl : l.length < 1000000000000000) (R : Exit → St → Prop) : LoopOK X10 L10_0 (ha10 m l) R := by
 refine loop_fams (Xw_ok _ _) [0, 1, 8, 9] (fa10 m l) (xa10 m l) 200 ⟨fun (a : Nat) ha => ?_, fun (a : Nat) ha => ?_, trivial⟩
 · have hL := fun h1 => loop10b m m1 hm l hl a h1 (bodyR 0 (xa10 m l) R)
   have hrow := row46 m hm (hiT m l) a
   have hbeg := beg46 m hm (hiT m l) a
   refine of_eq (q := (fun (f : Int) => (fun (e : Prop) => (fun (d : Nat) => (fun (g : LP) => (fun (c : Int) => (fun (b : Int) => (fun (h : Prop) => e ∧ e ∧ e ∧ (f < b → e ∧ inR .i64 c ∧ e ∧ LoopOK X10 L10_2 (hb10 m l a) (bodyR (0 : Nat) (xa10 m l) R) ∧ ((∃ (y : Nat), ((a < y ∧ y ≤ m) ∧ prK (PT m l) d (a * d + y) = []) ∧ (h ∧ l = l ∧ e ∧ f = f ∧ c = (y : Int) ∧ e) ∧ e) ∨ ∃ (y : Nat), (a < y ∧ y ≤ m) ∧ (h ∧ l = l ∧ False ∧ f = f ∧ c = (y : Int) ∧ e) ∧ False) ∧ (∀ (y : Unit), g = [] → e ∧ inR .i64 c ∧ e ∧ ((∃ (y : Nat), ((y ≤ m ∧ prK (PT m l) d (y * d) = []) ∧ m - y < m - a) ∧ (h ∧ l = l ∧ e ∧ c = (y : Int) ∧ e) ∧ e) ∨ ∃ (y : Nat), (y ≤ m ∧ m - y < m - a) ∧ (h ∧ l = l ∧ False ∧ c = (y : Int) ∧ e) ∧ False)) ∧ (∀ (y : Unit), e → e ∧ inR .i64 c ∧ e ∧ ((∃ (y : Nat), ((y ≤ m ∧ prK (PT m l) d (y * d) = []) ∧ m - y < m - a) ∧ (h ∧ l = l ∧ False ∧ c = (y : Int) ∧ e) ∧ e) ∨ ∃ (y : Nat), (y ≤ m ∧ m - y < m - a) ∧ (h ∧ l = l ∧ e ∧ c = (y : Int) ∧ e) ∧ g = prK (PT m l) d (y * d) ∧ e)) ∧ e) ∧ (¬f < b → (∃ (y : Unit), tmL m l = [] ∧ (h ∧ e ∧ e) ∧ e) ∨ ∃ (y : Unit), e ∧ (h ∧ False ∧ e) ∧ False)) (b = b)) ((m : Int))) (f + 1)) (prK (PT m l) d (a * d + m))) ((7 : Nat))) (True)) ((a : Int))) (by kernel_rfl) ?_
   simp only [zz]
   obtain ⟨a1, a2⟩ := ha
   exact ⟨fun h1 => ⟨in1 (by omega), hL (by omega), ⟨a + 1, ⟨⟨by omega, by omega⟩, by rw [← hbeg (by omega)]; exact a2⟩, by omega⟩, fun _ h2 => ⟨in1 (by omega), a + 1, ⟨⟨by omega, by rw [← hrow]; exact h2⟩, by omega⟩, by omega⟩, fun _ _ => ⟨in1 (by omega), a + 1, ⟨by omega, by omega⟩, by omega, hrow⟩⟩, fun h1 => (show a = m by omega) ▸ (all46 m hm (hiT m l)).symm.trans ((show m = a by omega) ▸ a2)⟩
 · have hL := fun h1 => loop10b m m1 hm l hl a h1 (bodyR 0 (xa10 m l) R)
   have hrow := row46 m hm (hiT m l) a
   have hbeg := beg46 m hm (hiT m l) a
   refine of_eq (q := (fun (f : Int) => (fun (e : Prop) => (fun (d : Nat) => (fun (g : LP) => (fun (c : Int) => (fun (b : Int) => (fun (h : Prop) => e ∧ e ∧ e ∧ (f < b → e ∧ inR .i64 c ∧ e ∧ LoopOK X10 L10_2 (hb10 m l a) (bodyR (0 : Nat) (xa10 m l) R) ∧ ((∃ (y : Nat), ((a < y ∧ y ≤ m) ∧ prK (PT m l) d (a * d + y) = []) ∧ (h ∧ l = l ∧ False ∧ f = f ∧ c = (y : Int) ∧ e) ∧ e) ∨ ∃ (y : Nat), (a < y ∧ y ≤ m) ∧ (h ∧ l = l ∧ e ∧ f = f ∧ c = (y : Int) ∧ e) ∧ prK (PT m l) d (a * d) = prK (PT m l) d (a * d + y) ∧ e) ∧ (∀ (y : Unit), g = [] → e ∧ inR .i64 c ∧ e ∧ ((∃ (y : Nat), ((y ≤ m ∧ prK (PT m l) d (y * d) = []) ∧ m - y < m - a) ∧ (h ∧ l = l ∧ e ∧ c = (y : Int) ∧ e) ∧ e) ∨ ∃ (y : Nat), (y ≤ m ∧ m - y < m - a) ∧ (h ∧ l = l ∧ False ∧ c = (y : Int) ∧ e) ∧ False)) ∧ (∀ (y : Unit), e → e ∧ inR .i64 c ∧ e ∧ ((∃ (y : Nat), ((y ≤ m ∧ prK (PT m l) d (y * d) = []) ∧ m - y < m - a) ∧ (h ∧ l = l ∧ False ∧ c = (y : Int) ∧ e) ∧ e) ∨ ∃ (y : Nat), (y ≤ m ∧ m - y < m - a) ∧ (h ∧ l = l ∧ e ∧ c = (y : Int) ∧ e) ∧ g = prK (PT m l) d (y * d) ∧ e)) ∧ e) ∧ (¬f < b → (∃ (y : Unit), tmL m l = [] ∧ (h ∧ False ∧ e) ∧ e) ∨ ∃ (y : Unit), e ∧ (h ∧ e ∧ e) ∧ prK (PT m l) d (a * d) = tmL m l ∧ e)) (b = b)) ((m : Int))) (f + 1)) (prK (PT m l) d (a * d + m))) ((7 : Nat))) (True)) ((a : Int))) (by kernel_rfl) ?_
   simp only [zz]
   have a1 : a ≤ m := ha
   exact ⟨fun h1 => ⟨in1 (by omega), hL (by omega), ⟨a + 1, ⟨by omega, by omega⟩, by omega, hbeg (by omega)⟩, fun _ h2 => ⟨in1 (by omega), a + 1, ⟨⟨by omega, by rw [← hrow]; exact h2⟩, by omega⟩, by omega⟩, fun _ _ => ⟨in1 (by omega), a + 1, ⟨by omega, by omega⟩, by omega, hrow⟩⟩, fun h1 => by unfold tmL; rw [← all46 m hm (hiT m l), show a = m by omega]⟩
theorem call10 (n : Int) (l : LP) (most : Nat) (h1 : 1 ≤ most) (h7 : most ≤ 7) (hl : l.length < 1000000000000000) : GCall Try.prog gl 10 true [.int .i64 n, .sl P2 l, .int .i64 most] [] [.int .i64 (tmM n most), .sl P2 (tmL (tmM n most) l)] [] := by
 refine gcall_of (X := X10) ((Xw_ok _ _)) (f := 10) (fn := Try.f10) (c := bodyOf Try.f10) (by kernel_rfl) (by kernel_rfl) (view := true) (rvs := [.tmp 6, .tmp 7]) (by kernel_rfl) (H := (fun _ => some (ha10 (tmM n most) l))) 150 (by kernel_rfl) ?_
 have hb := tmc_bd h1 n
 have hL := fun R => loop10a (tmM n most) (by unfold tmM; omega) (by unfold tmM; omega) l hl R
 refine of_eq (q := (fun (c : Prop) => (fun (b : Int) => (fun (a : Nat) => (fun (e : LP) => (fun (d : Int) => c ∧ c ∧ c ∧ c ∧ c ∧ inR .u64 (most : Int) ∧ ¬(most : Int) = 0 ∧ inR .i64 b ∧ inR .i64 ((1 : Int) + b) ∧ c ∧ c ∧ c ∧ LoopOK X10 L10_0 (ha10 a l) (RetR X10 true true [ResultVar.tmp (6 : Tmp), ResultVar.tmp (7 : Tmp)] [AV.int .i64 d, AV.sl P2 e] []) ∧ ((∃ (y : Nat), (y ≤ a ∧ prK (PT a l) (7 : Nat) (y * 7) = []) ∧ ((1 : Int) + b = d ∧ l = l ∧ c ∧ (0 : Int) = (y : Int) ∧ c) ∧ c) ∨ ∃ (y : Nat), y ≤ a ∧ ((1 : Int) + b = d ∧ l = l ∧ False ∧ (0 : Int) = (y : Int) ∧ c) ∧ False) ∧ (∀ (y : Unit), e = [] → c ∧ c ∧ c ∧ c ∧ c ∧ (d = d ∧ ([] : List (Int × Int)) = e ∧ c) ∧ c) ∧ (∀ (y : Unit), c → c ∧ c ∧ c ∧ c ∧ c ∧ (d = d ∧ e = e ∧ c) ∧ c) ∧ c) ((a : Int))) (tmL a l)) (tmM n most)) ((modU .u64 n).tmod (most : Int))) (True)) (by kernel_rfl) ?_
 simp only [zz]
 have e : 1 + (modU .u64 n).tmod most = ((tmM n most : Nat) : Int) := by
   show 1 + tmc most n = _
   unfold tmM; omega
 have r := tm_rg h1 h7 n
 refine ⟨by simp only [inR]; omega, by omega, r, by rw [e]; unfold tmM; simp only [inR]; omega, hL _, ⟨0, ⟨Nat.zero_le _, rfl⟩, e, rfl⟩, fun _ h => h.symm, fun _ _ => trivial⟩
end Go.Am.Or

/- Orders: plain facts: graphs as lists, and what an order is. -/
namespace Go.Am.Or
open Go Go.Am Go.Proofs
def e10 : Entry Try.prog gl := entry3 10 ⟨Try.f10, by kernel_rfl, by kernel_rfl, by kernel_rfl⟩ I64 SP I64 (fun _ l (most : Int) => (1 ≤ most ∧ most ≤ 7) ∧ (l : LP).length < 1000000000000000) true (fun (n : Int) (l : LP) (most : Int) => [.int .i64 (tmM n most.toNat), .sl P2 (tmL (tmM n most.toNat) l)]) (fun _ _ _ => []) (fun (n : Int) (l : LP) (most : Int) h => by
 have := call10 n l most.toNat (by omega) (by omega) h.2
 rwa [Int.toNat_of_nonneg (by omega)] at this)
theorem tmM_bd {n : Int} {most : Nat} (h1 : 1 ≤ most) : 1 ≤ tmM n most ∧ tmM n most ≤ most := by
 have := tmc_bd h1 n
 unfold tmM; omega
/-- The pairs of a relation are rising. -/
theorem prK_sort {P : RF} : ∀ {q i j : Nat}, i < j → j < (prK P 7 q).length → lt2 ((prK P 7 q).getD i (0, 0)) ((prK P 7 q).getD j (0, 0))
 | 0, i, j, _, h => by simp [prK] at h
 | q + 1, i, j, hij, h => by
   rw [prK] at h ⊢
   by_cases hp : P (q / 7) (q % 7) = true
   · rw [if_pos hp] at h ⊢
     rw [List.length_append, List.length_singleton] at h
     by_cases hj : j < (prK P 7 q).length
     · rw [getD_app hj, getD_app (by omega)]; exact prK_sort hij hj
     · have e : j = (prK P 7 q).length := by omega
       rw [e, getD_last, getD_app (by omega)]
       obtain ⟨a, b, h1, h2, h3, _⟩ := (prK_mem (by decide)).mp (mem_getD (d := (0, 0)) (show i < (prK P 7 q).length by omega))
       rw [h1]
       unfold lt2
       simp only
       omega
   · rw [if_neg hp] at h ⊢; exact prK_sort hij h
theorem L46_ok {n : Nat} (n1 : 1 ≤ n) (hn : n ≤ 7) (f : RF) : grOk n (L46 n f) := by
 refine ⟨by omega, fun k hk => ?_, ?_⟩
 · obtain ⟨a, b, h1, h2, h3, h4, _⟩ := L46_mem.mp (mem_getD (d := (0, 0)) hk)
   refine ⟨?_, ?_, ?_, fun h0 => prK_sort (by omega) hk⟩ <;> (rw [h1]; simp only; omega)
 · have := prK_len (P46 n f) 7 49
   unfold L46; omega
theorem eg_L46 {n : Nat} {f : RF} {x y : Nat} (hx : x < 7) (hy : y < 7) : eg (L46 n f) x y = true ↔ (x < y ∧ y < n ∧ f x y = true) ∨ (y < x ∧ x < n ∧ f y x = true) := by
 unfold eg
 rw [List.any_eq_true]
 constructor
 · rintro ⟨e, h1, h2⟩
   obtain ⟨a, b, g1, g2, g3, g4, g5⟩ := L46_mem.mp h1
   rw [g1] at h2
   simp only [Bool.or_eq_true, Bool.and_eq_true, decide_eq_true_eq] at h2
   rcases h2 with h2 | h2
   · have : a = x := by omega
     have : b = y := by omega
     subst a b
     exact .inl ⟨g2, g3, g5⟩
   · have : a = y := by omega
     have : b = x := by omega
     subst a b
     exact .inr ⟨g2, g3, g5⟩
 · rintro (⟨h1, h2, h3⟩ | ⟨h1, h2, h3⟩)
   · exact ⟨((x : Int), (y : Int)), L46_mem.mpr ⟨x, y, rfl, h1, h2, hy, h3⟩, by simp⟩
   · exact ⟨((y : Int), (x : Int)), L46_mem.mpr ⟨y, x, rfl, h1, h2, hx, h3⟩, by simp⟩
/-- A graph. -/
structure gr (n : Nat) (f : RF) : Prop where
 n1 : 1 ≤ n
 hn : n ≤ 7
 lt : ∀ x y, f x y = true → x < n ∧ y < n
 sy : ∀ x y, f x y = f y x
 ir : ∀ x, f x x = false
theorem eg_sy (l : LP) (x y : Nat) : eg l x y = eg l y x := by
 unfold eg
 congr 1
 funext e
 exact Bool.or_comm _ _
theorem grOk.at {n : Int} {l : LP} (h : grOk n l) {y : PA} (hy : y ∈ l) : (0 ≤ y.1 ∧ y.1 < y.2) ∧ y.2 < n := by
 obtain ⟨i, hi, e⟩ := List.getElem_of_mem hy
 obtain ⟨h1, h2, h3, _⟩ := h.he i hi
 rw [getD_lt hi, e] at h1 h2 h3
 exact ⟨⟨h1, h2⟩, h3⟩
theorem gr_eg {n : Nat} {l : LP} (h : grOk n l) : gr n (eg l) := by
 obtain ⟨n1, n2⟩ := h.hn
 refine ⟨by omega, by omega, fun x y hxy => ?_, eg_sy l, fun x => ?_⟩
 · unfold eg at hxy
   obtain ⟨e, h1, h2⟩ := List.any_eq_true.mp hxy
   have := h.at h1
   simp only [Bool.or_eq_true, Bool.and_eq_true, decide_eq_true_eq] at h2
   omega
 · cases hx : eg l x x with
   | false => rfl
   | true =>
     unfold eg at hx
     obtain ⟨e, h1, h2⟩ := List.any_eq_true.mp hx
     have := h.at h1
     simp only [Bool.or_eq_true, Bool.and_eq_true, decide_eq_true_eq] at h2
     omega
theorem gr_ot {n : Nat} {f : RF} (h : gr n f) : gr n (otR n f) := by
 refine ⟨h.n1, h.hn, fun x y hxy => ?_, fun x y => ?_, fun x => ?_⟩
 · simp only [otR, Bool.and_eq_true, decide_eq_true_eq] at hxy
   exact hxy.1
 · unfold otR
   rw [h.sy x y, Bool.and_comm (decide (x < n)), show decide (x = y) = decide (y = x) from decide_eq_decide.mpr ⟨fun e => e.symm, fun e => e.symm⟩]
 · unfold otR; simp
theorem eg_back {n : Nat} {f : RF} (h : gr n f) {x y : Nat} (hx : x < 7) (hy : y < 7) : eg (L46 n f) x y = f x y := by
 rw [Bool.eq_iff_iff, eg_L46 hx hy]
 constructor
 · rintro (⟨_, _, h1⟩ | ⟨_, _, h1⟩)
   · exact h1
   · rw [h.sy]; exact h1
 · intro h1
   have h2 := h.lt x y h1
   have hne : x ≠ y := fun e => by rw [e, h.ir] at h1; cases h1
   rcases Nat.lt_or_gt_of_ne hne with h3 | h3
   · exact .inl ⟨h3, h2.2, h1⟩
   · exact .inr ⟨h3, h2.1, by rw [h.sy]; exact h1⟩
theorem fcl_in {f : RF} {a b : Nat} (h : f a b = true) : ∀ {k : Nat} {y : PA}, y ∈ fcl f a b k → f y.1.toNat y.2.toNat = true
 | 0, y, hy => by rw [fcl, List.mem_singleton] at hy; rw [hy]; exact h
 | k + 1, y, hy => by
   rw [fcl, List.mem_append, List.mem_append] at hy
   rcases hy with (hy | hy) | hy
   · exact fcl_in h hy
   · unfold fc1 at hy
     split at hy
     · rename_i hc; rw [List.mem_singleton] at hy; rw [hy]; exact hc.2.1
     · cases hy
   · unfold fc2 at hy
     split at hy
     · rename_i hc; rw [List.mem_singleton] at hy; rw [hy]; exact hc.2.1
     · cases hy
def inF (f : RF) (l : LP) : Prop := ∀ y, y ∈ l → f y.1.toNat y.2.toNat = true
theorem fold_in {f : RF} {i : Nat} : ∀ {l : LP} {s : MA × LP}, inF f s.2 → inF f l → inF f (l.foldl (stp i) s).2
 | [], _, h, _ => h
 | y :: l, s, h, hl => fold_in (l := l) (s := stp i s y) (by
   unfold stp
   split
   · exact h
   · intro z hz
     rcases List.mem_append.mp hz with h1 | h1
     · exact h z h1
     · rw [List.mem_singleton.mp h1]; exact hl y (by simp)) fun z hz => hl z (by simp [hz])
theorem rst_in {f : RF} {n : Nat} {s : MA × LP} (h : inF f s.2) : ∀ k, inF f (rst f n s k).2
 | 0 => h
 | k + 1 => by
   have ih := rst_in (n := n) h k
   rw [rst]
   split
   · rename_i hk
     exact fold_in ih fun y hy => fcl_in (ih _ (mem_getD hk)) hy
   · exact ih
theorem rch_in {f : RF} {n : Nat} {a b : Int} (h : f a.toNat b.toNat = true) : inF f (rch f n a b).2 := rst_in (fun y hy => by
 have : y = (a, b) := List.mem_singleton.mp hy
 rw [this]; exact h) 49
/-- The relation that is made goes along the edges, one way or both. -/
structure ori (n : Nat) (f o g : RF) : Prop where
 gg : gr n g
 of : ∀ x y, x < 7 → y < 7 → (f x y = true ↔ o x y = true ∨ o y x = true ∨ g x y = true)
 oi : ∀ x y, o x y = true → f x y = true
theorem ori_step {n : Nat} {f o g : RF} {a b : Int} (h : ori n f o g) (ha : 0 ≤ a ∧ a < n) (hb : 0 ≤ b ∧ b < n) (hab : g a.toNat b.toNat = true) : ori n f (adL o (rch g n a b).2) (dlL g (rch g n a b).2) := by
 have hc := rch_rg7 (f := g) h.gg.hn ha hb
 have hi := rch_in (n := n) hab
 have hp : ∀ z, z ∈ (rch g n a b).2 → 0 ≤ z.1 ∧ 0 ≤ z.2 := fun z hz => by have := hc.2 z hz; omega
 have hgi : ∀ x y : Nat, ((x : Int), (y : Int)) ∈ (rch g n a b).2 → g x y = true := fun x y hxy => hi _ hxy
 generalize (rch g n a b).2 = c at *
 have hlt : ∀ x y, g x y = true → x < 7 ∧ y < 7 := fun x y hxy => by have := h.gg.lt x y hxy; have := h.gg.hn; omega
 refine ⟨⟨h.gg.n1, h.gg.hn, fun x y hxy => h.gg.lt x y ((dlL_iff hp).mp hxy).1, fun x y => ?_, fun x => ?_⟩, fun x y hx hy => ?_, fun x y hxy => ?_⟩
 · rw [Bool.eq_iff_iff, dlL_iff hp, dlL_iff hp, h.gg.sy x y]
   exact ⟨fun ⟨h1, h2, h3⟩ => ⟨h1, h3, h2⟩, fun ⟨h1, h2, h3⟩ => ⟨h1, h3, h2⟩⟩
 · cases hx : dlL g c x x with
   | false => rfl
   | true => have := ((dlL_iff hp).mp hx).1; rw [h.gg.ir] at this; cases this
 · rw [h.of x y hx hy, adL_iff hp, adL_iff hp, dlL_iff hp]
   constructor
   · rintro (h1 | h1 | h1)
     · exact .inl (.inl h1)
     · exact .inr (.inl (.inl h1))
     · by_cases e1 : ((x : Int), (y : Int)) ∈ c
       · exact .inl (.inr e1)
       · by_cases e2 : ((y : Int), (x : Int)) ∈ c
         · exact .inr (.inl (.inr e2))
         · exact .inr (.inr ⟨h1, e1, e2⟩)
   · rintro ((h1 | h1) | (h1 | h1) | h1)
     · exact .inl h1
     · exact .inr (.inr (hgi _ _ h1))
     · exact .inr (.inl h1)
     · exact .inr (.inr (by rw [h.gg.sy]; exact hgi _ _ h1))
     · exact .inr (.inr h1.1)
 · rcases (adL_iff hp).mp hxy with h1 | h1
   · exact h.oi x y h1
   · have := hgi _ _ h1
     exact (h.of x y (hlt _ _ this).1 (hlt _ _ this).2).mpr (.inr (.inr this))
theorem orI_ori {n : Nat} {f : RF} : ∀ {k : Nat} {o g r : RF}, ori n f o g → orI n k o g = some r → (∀ x y, x < 7 → y < 7 → (f x y = true ↔ r x y = true ∨ r y x = true)) ∧ ∀ x y, r x y = true → f x y = true
 | 0, _, _, _, _, h => by cases h
 | k + 1, o, g, r, ho, h => by
   rw [orI] at h
   split at h
   · rename_i hL
     injection h with h; subst h
     refine ⟨fun x y hx hy => ?_, ho.oi⟩
     rw [ho.of x y hx hy]
     have : ¬ g x y = true := fun h1 => by
       have h2 := ho.gg.lt x y h1
       have : ((x : Int), (y : Int)) ∈ L62 n g := (L62_mem ho.gg.hn).mpr ⟨x, y, rfl, h2.1, h2.2, h1⟩
       rw [hL] at this; cases this
     simp [this]
   · rename_i y l hL
     split at h
     · cases h
     · have hm : y ∈ L62 n g := by rw [hL]; simp
       obtain ⟨a, b, h1, h2, h3, h4⟩ := (L62_mem ho.gg.hn).mp hm
       exact orI_ori (ori_step ho (by rw [h1]; simp only; omega) (by rw [h1]; simp only; omega) (by rw [h1]; exact h4)) h
/-- An order of a graph. -/
structure isOr (n : Nat) (f r : RF) : Prop where
 tr : trB r = true
 of : ∀ x y, x < 7 → y < 7 → (f x y = true ↔ r x y = true ∨ r y x = true)
 oi : ∀ x y, r x y = true → f x y = true
theorem orR_isOr {n : Nat} {f : RF} (hg : gr n f) (h : (orR n f).2 = true) : isOr n f (orR n f).1 := by
 have ht := orR_tr h
 unfold orR at h ht ⊢
 split
 · rename_i e; rw [e] at h; cases h
 · rename_i o e
   rw [e] at ht
   have := orI_ori (n := n) (f := f) ⟨hg, fun x y _ _ => by simp [zf], fun x y h => by cases h⟩ e
   exact ⟨ht, this.1, this.2⟩
end Go.Am.Or

/- Orders: the reference: joined, colours. -/
namespace Go.Am.Or
open Go Go.Am Go.Proofs
def hasB (l : LP) (x : PA) : Bool := decide (x ∈ l)
noncomputable def L36_0 : Code := lp (bodyOf Try.f36) 0
def st36 (l : LP) (x : PA) (i : Nat) : St := ⟨(.sl P2 l :: dd 2 ++ .ptr 0 0 [] :: .dead :: .int .i64 i :: dd 12), [.bx (pa x.1 x.2)]⟩
def ex36 (l : LP) (x : PA) : List (List Nat × Ex) := [([], ⟨0, Unit, fun _ => ¬ x ∈ l, fun _ => ⟨(dd 18), []⟩⟩)]
def h36 (l : LP) (x : PA) : Hint := ⟨chk 0 [0, 3, 5] (fun i => i ≤ l.length ∧ ¬ x ∈ l.take i) (st36 l x), (ex36 l x).map (·.2)⟩
theorem loop36 (l : LP) (x : PA) (hl : l.length < 1000000000000000) : LoopOK (X []) L36_0 (h36 l x) (RetR (X []) true false [.tmp 4] [.bool (hasB l x)] []) := by
 refine loop_ok (X_ok _) (H := fun _ _ => none) [0, 3, 5] (fun i => i ≤ l.length ∧ ¬ x ∈ l.take i) (st36 l x) (fun i => l.length - i) (ex36 l x) 200 fun (i : Nat) hi => ?_
 refine of_eq (q := (fun (d : Int × Int) => (fun (c : Int) => (fun (b : Prop) => (fun (a : Prop) => b ∧ b ∧ b ∧ b ∧ (c < (↑(List.length l) : Int) → b ∧ b ∧ idxPre c (List.length l) ∧ b ∧ b ∧ b ∧ (a → b ∧ b ∧ (true = hasB l x ∧ b) ∧ b) ∧ (¬a → b ∧ inR .i64 (c + 1) ∧ b ∧ ∃ (y : Nat), ((y ≤ List.length l ∧ ¬x ∈ List.take y l) ∧ List.length l - y < List.length l - i) ∧ (l = l ∧ b ∧ c + 1 = (y : Int) ∧ b) ∧ [x.fst, x.snd] = [x.fst, x.snd] ∧ b)) ∧ (¬c < (↑(List.length l) : Int) → ∃ (y : Unit), ¬x ∈ l ∧ b ∧ b)) ((d.fst, d.snd) = (x.fst, x.snd))) (True)) ((i : Int))) (List.getD l i ((0 : Int), (0 : Int)))) (by kernel_rfl) ?_
 simp only [zz]
 obtain ⟨i1, i2⟩ := hi
 refine ⟨fun h1 => ?_, fun h1 => by rwa [List.take_of_length_le (by omega)] at i2⟩
 have h1 : i < l.length := by omega
 have hm := mem_getD (d := (0, 0)) h1
 have ht := take_getD (d := (0, 0)) h1
 refine ⟨idx_nat h1, fun h2 => ?_, fun h2 => ⟨by simp only [inR]; omega, i + 1, ⟨⟨by omega, ?_⟩, by omega⟩, by omega⟩⟩
 · have h2 : l.getD i (0, 0) = x := h2
   exact (decide_eq_true (h2 ▸ hm)).symm
 · have h2 : ¬ l.getD i (0, 0) = x := h2
   rw [ht, List.mem_append, List.mem_singleton]
   exact fun h => h.elim i2 fun h => h2 h.symm
theorem call36 (l : LP) (x : PA) (hl : (l : LP).length < 1000000000000000) : GCall Try.prog gl 36 true [.sl P2 l, pa x.1 x.2] [] [.bool (hasB l x)] [] := by
 refine gcall_of (X := (X [])) ((X_ok _)) (f := 36) (fn := Try.f36) (c := bodyOf Try.f36) (by kernel_rfl) (by kernel_rfl) (view := false) (rvs := [.tmp 4]) (by kernel_rfl) (H := (fun _ => some (h36 l x))) 150 (by kernel_rfl) ?_
 have hL := loop36 l x hl
 refine of_eq (q := (fun (a : Prop) => a ∧ a ∧ a ∧ LoopOK (X []) L36_0 (h36 l x) (RetR (X []) true false [ResultVar.tmp (4 : Tmp)] [AV.bool (hasB l x)] []) ∧ (∃ (y : Nat), (y ≤ List.length l ∧ ¬x ∈ List.take y l) ∧ (l = l ∧ a ∧ (0 : Int) = (y : Int) ∧ a) ∧ [x.fst, x.snd] = [x.fst, x.snd] ∧ a) ∧ (∀ (y : Unit), ¬x ∈ l → a ∧ a ∧ (false = hasB l x ∧ a) ∧ a) ∧ a) (True)) (by kernel_rfl) ?_
 simp only [zz]
 exact ⟨hL, ⟨0, ⟨Nat.zero_le _, by simp⟩, rfl⟩, fun _ h => (decide_eq_false h).symm⟩
def e36 : Entry Try.prog gl := entry2 36 ⟨Try.f36, by kernel_rfl, by kernel_rfl, by kernel_rfl⟩ SP P2 (fun l _ => (l : LP).length < 1000000000000000) true (fun l x => [.bool (hasB l x)]) (fun _ _ => []) (fun l x h => call36 l x h)
def jnB (l : LP) (a b : Int) : Bool := hasB l (minI a b, maxI a b)
def kB (e : LP) (l : List Int) (c : Int) : Nat → Bool
 | 0 => true
 | u + 1 => kB e l c u && (!decide (l.getD u 0 = c) || !jnB e u l.length)
def colB (e : LP) (k : Nat) : Nat → List Int → Bool
 | 0, _ => true
 | d + 1, l => (List.range k).any fun c => kB e l c l.length && colB e k d (l ++ [(c : Int)])
structure ok75 (n : Nat) (e : LP) (k d : Nat) (l : List Int) : Prop where
 hn : n ≤ 7
 hk : k ≤ 8
 d : l.length + d = n
 e : e.length < 1000000000000000
structure G75 where
 n : Int
 e : LP
 k : Int
 l : List Int
structure ok75G (x : G75) : Prop where
 n : 0 ≤ x.n
 k : 0 ≤ x.k
 o : ok75 x.n.toNat x.e x.k.toNat x.n.toNat []
 l : x.l = []
def clB (n : Nat) (e : LP) (k : Nat) : Bool := decide (1 ≤ k) && colB e k n []
def clN (n : Nat) (e : LP) : Nat := ((List.range (n + 1)).find? (clB n e)).getD 0
structure ia33 (n : Nat) (e : LP) (k : Nat) : Prop where
 h1 : 1 ≤ k
 hk : k ≤ n
 h : ∀ j, 1 ≤ j → j < k → colB e j n [] = false
end Go.Am.Or

/- Orders: Mirsky's theorem. -/
namespace Go.Am.Or
open Go Go.Am Go.Proofs
theorem isOr_ext {n : Nat} {f r s : RF} (h : isOr n f r) (e : ∀ x y, x < 7 → y < 7 → s x y = r x y) (hs : ∀ x y, s x y = true → x < 7 ∧ y < 7) : isOr n f s := by
 refine ⟨(trB_ext e).trans h.tr, fun x y hx hy => ?_, fun x y hxy => ?_⟩
 · rw [e x y hx hy, e y x hy hx]; exact h.of x y hx hy
 · have := hs x y hxy
   exact h.oi x y (by rw [← e x y this.1 this.2]; exact hxy)
theorem adL_prK {r : RF} {x y : Nat} (hx : x < 7) (hy : y < 7) : adL zf (prK r 7 49) x y = r x y := by
 have hp : ∀ z, z ∈ prK r 7 49 → 0 ≤ z.1 ∧ 0 ≤ z.2 := fun z hz => by
   obtain ⟨a, b, h1, _⟩ := (prK_mem (by decide)).mp hz
   rw [h1]; simp only; omega
 rw [Bool.eq_iff_iff, adL_iff hp, prK_mem (by decide)]
 constructor
 · rintro (h | ⟨a, b, h1, _, _, h2⟩)
   · cases h
   · have : a = x := by have := congrArg Prod.fst h1; simp only at this; omega
     have : b = y := by have := congrArg Prod.snd h1; simp only at this; omega
     subst a b; exact h2
 · intro h
   exact .inr ⟨x, y, rfl, hy, by omega, h⟩
theorem adL_prK_lt {r : RF} {x y : Nat} (h : adL zf (prK r 7 49) x y = true) : x < 7 ∧ y < 7 := by
 have hp : ∀ z, z ∈ prK r 7 49 → 0 ≤ z.1 ∧ 0 ≤ z.2 := fun z hz => by
   obtain ⟨a, b, h1, _⟩ := (prK_mem (by decide)).mp hz
   rw [h1]; simp only; omega
 rcases (adL_iff hp).mp h with h | h
 · cases h
 · obtain ⟨a, b, h1, h2, h3, _⟩ := (prK_mem (by decide)).mp h
   have : a = x := by have := congrArg Prod.fst h1; simp only at this; omega
   have : b = y := by have := congrArg Prod.snd h1; simp only at this; omega
   omega
/-- An order of a graph, told, is one that may be given. -/
theorem told_ok {n : Nat} {f r : RF} (hg : gr n f) (h : isOr n f r) : orOk n (prK r 7 49) ∧ isOr n f (adL zf (prK r 7 49)) := by
 have hn1 := hg.n1
 have hn := hg.hn
 have h2 : isOr n f (adL zf (prK r 7 49)) := isOr_ext h (fun x y hx hy => adL_prK hx hy) fun x y => adL_prK_lt
 refine ⟨⟨by omega, fun k hk => ?_, ?_, h2.tr⟩, h2⟩
 · obtain ⟨a, b, h1, h3, h4, h5⟩ := (prK_mem (by decide)).mp (mem_getD (d := (0, 0)) hk)
   have h6 := hg.lt a b (h.oi a b h5)
   have hne : a ≠ b := fun e => by rw [e, trB_irr h.tr h3] at h5; cases h5
   refine ⟨?_, ?_, ?_, fun h0 => prK_sort (by omega) hk⟩ <;> (rw [h1]; simp only; omega)
 · have := prK_len r 7 49
   omega
end Go.Am.Or

/- Orders: the law of Mirsky. -/
namespace Go.Am.Or
open Go Go.Am Go.Proofs
def mxT (l : List Int) : Nat → Int
 | 0 => 0
 | i + 1 => maxI (mxT l i) (l.getD i 0)
structure p6 (m : Nat) (o : LP) (y : List Int) : Prop where
 hm : m ≤ 7
 hy : y.length = m
 ho : o.length ≤ 1000
 r : ∀ i, i < o.length → ((0 ≤ (o.getD i (0, 0)).1 ∧ (o.getD i (0, 0)).1 < m) ∧ (0 ≤ (o.getD i (0, 0)).2 ∧ (o.getD i (0, 0)).2 < m)) ∧ y.getD (o.getD i (0, 0)).1.toNat 0 < y.getD (o.getD i (0, 0)).2.toNat 0
structure F6 (m : Nat) (e : LP) : Prop where
 m1 : 1 ≤ m
 m7 : m ≤ 7
 ge : grOk m e
 le : e.length < 1000000000000000
 tk : (orR m (eg e)).2 = true → orOk m (orL m e)
 pp : (orR m (eg e)).2 = true → p6 m (orL m e) (lyS (adL zf (orL m e)) m m)
 tp : (orR m (eg e)).2 = true → mxT (lyS (adL zf (orL m e)) m m) m = ((chR (adL zf (orL m e)) m).length : Int) - 1
 cc : (orR m (eg e)).2 = true → (clN m e : Int) = (chR (adL zf (orL m e)) m).length
 lc : (chR (adL zf (orL m e)) m).length ≤ 9
end Go.Am.Or

/- Orders: two lists of all nodes. -/
namespace Go.Am.Or
open Go Go.Am Go.Proofs
def atV (b : List Int) (v : Nat) : Nat := if v < b.length then (tmc (v + 1) (b.getD v 0)).toNat else 0
def ins (r : List Int) (p v : Nat) : List Int := r.take p ++ [(v : Int)] ++ r.drop p
def rwK (b : List Int) : Nat → List Int
 | 0 => []
 | v + 1 => ins (rwK b v) (atV b v) v
theorem rwK_len (b : List Int) : ∀ v, (rwK b v).length = v
 | 0 => rfl
 | v + 1 => by
   rw [rwK, ins, List.length_append, List.length_append, List.length_take, List.length_drop, List.length_singleton, rwK_len b v]
   omega
theorem atV_le (b : List Int) (v : Nat) : atV b v ≤ v := by
 unfold atV
 split
 · have := tmc_bd (m := v + 1) (by omega) (b.getD v 0)
   omega
 · exact Nat.zero_le _
def ouK (by0 : List (List Int)) (n : Nat) : Nat → List (List Int)
 | 0 => [[], []]
 | k + 1 => (ouK by0 n k).set k (rwK (by0.getD k []) n)
def nH : Nat → Option Hint := fun _ => none
def h23 (ts : List Nat) (i : Nat) : Bool := ts.any fun t => Nat.beq i t
noncomputable abbrev X23 (ts : List Nat) : Cy := Xw [] (h23 (13 :: 38 :: ts))
noncomputable def L23_0 : Code := lp (bodyOf Try.f23) 0
noncomputable def L23_2 : Code := lp (bodyOf Try.f23) 2
def sN23 (n : Nat) (bs : List (List Int)) (k : Nat) : St := ⟨(.int .i64 n :: dd 2 ++ .ptr 0 0 [] :: .dead :: .ptr 1 0 [] :: .ptr 2 0 [] :: .int .i64 k :: nl :: .int .i64 0 :: dd 53), [.bx (.ar SI 2 bs), .bx (.ar SI 2 [[], []]), .bx (.ar SI 2 (ouK bs n k))]⟩
def sO23 (n : Nat) (bs : List (List Int)) (k v : Nat) : St := ⟨(.int .i64 n :: dd 2 ++ .ptr 0 0 [] :: .dead :: .ptr 1 0 [] :: .ptr 2 0 [] :: .int .i64 k :: .own 3 0 :: .int .i64 ((v : Int) + 1) :: dd 53), [.bx (.ar SI 2 bs), .bx (.ar SI 2 [[], []]), .bx (.ar SI 2 (ouK bs n k)), .sc 0 3 I64 (rwK (bs.getD k []) (v + 1))]⟩
def fb23 (n : Nat) (bs : List (List Int)) (k : Nat) : List Fam := [⟨Unit, fun _ => True, fun _ => sN23 n bs k, fun _ => n + 1, fun _ => nH⟩, ⟨Nat, fun v => v + 1 ≤ n, sO23 n bs k, fun v => n - v, fun _ => nH⟩]
def xb23 (n : Nat) (bs : List (List Int)) (k : Nat) : List (List Nat × Ex) := [([0, 3, 5, 6, 7, 8], ⟨2, Unit, fun _ => True, fun _ => ⟨(.int .i64 n :: dd 2 ++ .ptr 0 0 [] :: .dead :: .ptr 1 0 [] :: .ptr 2 0 [] :: .int .i64 k :: .own 3 0 :: dd 54), [.bx (.ar SI 2 bs), .bx (.ar SI 2 [[], []]), .bx (.ar SI 2 (ouK bs n k)), .sc 0 3 I64 (rwK (bs.getD k []) n)]⟩⟩)]
def hb23 (n : Nat) (bs : List (List Int)) (k : Nat) : Hint := ⟨chks 0 [0, 3, 5, 6, 7, 8, 9] (fb23 n bs k), (xb23 n bs k).map (·.2)⟩
theorem tkS {l : List Int} {x : Int} : List.take (bHi l.length (some x) - bLo none) (List.drop (bLo none) l) = l.take x.toNat := by
 simp [bHi, bLo]
theorem dpS {l : List Int} {x : Int} : List.take (bHi l.length none - bLo (some x)) (List.drop (bLo (some x)) l) = l.drop x.toNat := by
 simp [bHi, bLo]
 try exact List.take_of_length_le (by simp)
theorem atV_lt {b : List Int} {v : Nat} (h : v < b.length) : ((atV b v : Nat) : Int) = (modU .u64 (b.getD v 0)).tmod ((v : Int) + 1) := by
 unfold atV
 rw [if_pos h]
 have := tmc_bd (m := v + 1) (by omega) (b.getD v 0)
 unfold tmc at this ⊢
 rw [Int.natCast_add, Int.natCast_one] at this ⊢
 omega
theorem atV_ge {b : List Int} {v : Nat} (h : ¬ v < b.length) : atV b v = 0 := by unfold atV; rw [if_neg h]
theorem insN {r : List Int} {v n : Nat} (hr : r.length = v + 1) (h1 : v + 1 < n) (hn : n ≤ 7) {w : Nat → List Int} (e : w (v + 1 + 1) = [(v : Int) + 1] ++ r) {x : Int} (hx : x = 0) : slPre r.length r.length none (some x) none ∧ (List.take (bHi r.length (some x) - bLo none) (List.drop (bLo none) r) = [] ∧ sumPre 0 (List.take (bHi r.length (some x) - bLo none) (List.drop (bLo none) r)).length 8) ∧ sumPre 0 [(v : Int) + 1].length 8 ∧ slPre r.length r.length (some x) none none ∧ sumPre [(v : Int) + 1].length (List.take (bHi r.length none - bLo (some x)) (List.drop (bLo (some x)) r)).length 8 ∧ inR .i64 ((v : Int) + 1 + 1) ∧ ∃ y : Nat, (y + 1 ≤ n ∧ n - y < n - v) ∧ (v : Int) + 1 + 1 = y + 1 ∧ [(v : Int) + 1] ++ List.take (bHi r.length none - bLo (some x)) (List.drop (bLo (some x)) r) = w (y + 1) := by
 subst hx
 rw [tkS, dpS]
 simp only [Int.toNat_zero, List.take_zero, List.drop_zero, List.length_nil, List.length_singleton, hr]
 exact ⟨by simp only [slPre]; omega, ⟨trivial, by simp [sumPre]⟩, by simp [sumPre], by simp only [slPre]; omega, by unfold sumPre; omega, by simp only [inR]; omega, v + 1, ⟨by omega, by omega⟩, by omega, e.symm⟩
theorem insO {r : List Int} {v n q : Nat} (hr : r.length = v + 1) (h1 : v + 1 < n) (hn : n ≤ 7) (hq : q ≤ v + 1) (h0 : ¬ q = 0) {w : Nat → List Int} (e : w (v + 1 + 1) = r.take q ++ [(v : Int) + 1] ++ r.drop q) {x : Int} (hx : x = q) : slPre r.length r.length none (some x) none ∧ (List.take (bHi r.length (some x) - bLo none) (List.drop (bLo none) r) ≠ [] ∧ sumPre 0 (List.take (bHi r.length (some x) - bLo none) (List.drop (bLo none) r)).length 8) ∧ sumPre (List.take (bHi r.length (some x) - bLo none) (List.drop (bLo none) r)).length [(v : Int) + 1].length 8 ∧ slPre r.length r.length (some x) none none ∧ sumPre (List.take (bHi r.length (some x) - bLo none) (List.drop (bLo none) r) ++ [(v : Int) + 1]).length (List.take (bHi r.length none - bLo (some x)) (List.drop (bLo (some x)) r)).length 8 ∧ inR .i64 ((v : Int) + 1 + 1) ∧ ∃ y : Nat, (y + 1 ≤ n ∧ n - y < n - v) ∧ (v : Int) + 1 + 1 = y + 1 ∧ (List.take (bHi r.length (some x) - bLo none) (List.drop (bLo none) r) ++ [(v : Int) + 1]) ++ List.take (bHi r.length none - bLo (some x)) (List.drop (bLo (some x)) r) = w (y + 1) := by
 subst hx
 rw [tkS, dpS, Int.toNat_natCast]
 have hlt : (r.take q).length = q := by rw [List.length_take, hr]; omega
 have hld : (r.drop q).length = v + 1 - q := by rw [List.length_drop, hr]
 simp only [List.length_append, List.length_singleton, hlt, hld, hr]
 exact ⟨by simp only [slPre]; omega, ⟨fun e => h0 (by rw [← hlt, e]; rfl), by unfold sumPre; omega⟩, by unfold sumPre; omega, by simp only [slPre]; omega, by unfold sumPre; omega, by simp only [inR]; omega, v + 1, ⟨by omega, by omega⟩, by omega, e.symm⟩
theorem loop23b (n : Nat) (n1 : 1 ≤ n) (hn : n ≤ 7) (bs : List (List Int)) (hb : bs.length = 2) (k : Nat) (hk : k < 2) (R : Exit → St → Prop) : LoopOK (X23 []) L23_2 (hb23 n bs k) R := by
 refine loop_famsX [0, 3, 5, 6, 7, 8, 9] (fb23 n bs k) (xb23 n bs k) 250 ⟨fun (_ : Unit) _ => ?_, fun (v : Nat) hv => ?_, trivial⟩
 · refine ⟨X23 [1000048], Xw_ok _ _, rfl, rfl, rfl, rfl, ?_⟩
   refine of_eq (q := (fun (p : Nat) => (fun (m : Nat) => (fun (l : Int) => (fun (j : Option Int) => (fun (i : List (List Int)) => (fun (h : Int) => (fun (g : Int) => (fun (f : Int) => (fun (e : Nat) => (fun (o : Prop) => (fun (d : Prop) => (fun (c : Prop) => (fun (b : Int) => (fun (a : Prop) => c ∧ c ∧ c ∧ (f < g → c ∧ c ∧ c ∧ idxPre h (2 : Nat) ∧ c ∧ c ∧ c ∧ (f < (m : Int) → c ∧ idxPre h (2 : Nat) ∧ c ∧ c ∧ idxPre f m ∧ c ∧ c ∧ c ∧ inR .i64 l ∧ inR .u64 l ∧ ¬l = f ∧ inR .i64 b ∧ c ∧ c ∧ c ∧ c ∧ c ∧ slPre e e j (some b) j ∧ sumPre e e (nat_lit 8) ∧ c ∧ c ∧ c ∧ c ∧ o ∧ c ∧ c ∧ c ∧ c ∧ slPre e e (some b) j j ∧ a) ∧ (¬f < (m : Int) → c ∧ c ∧ c ∧ c ∧ slPre e e j (some f) j ∧ sumPre e e (nat_lit 8) ∧ c ∧ c ∧ c ∧ c ∧ o ∧ c ∧ c ∧ c ∧ c ∧ slPre e e (some f) j j ∧ a)) ∧ (¬f < g → ∃ (y : Unit), c ∧ (g = g ∧ c ∧ c ∧ c ∧ h = h ∧ False ∧ c) ∧ bs = bs ∧ d ∧ i = i ∧ False)) (sumPre [f].length e (nat_lit 8) ∧ c ∧ c ∧ inR .i64 l ∧ c ∧ ((∃ (y : Unit), (c ∧ n + p < n + p) ∧ (g = g ∧ c ∧ c ∧ c ∧ h = h ∧ False ∧ l = f ∧ c) ∧ bs = bs ∧ d ∧ i = i ∧ c) ∨ ∃ (y : Nat), (y + p ≤ n ∧ n - y < n + p) ∧ (g = g ∧ c ∧ c ∧ c ∧ h = h ∧ c ∧ l = (y : Int) + l ∧ c) ∧ bs = bs ∧ d ∧ i = i ∧ [f] ++ [] = rwK (bs.getD k []) (y + p) ∧ c))) ((modU .u64 (List.getD (bs.getD k []) e f)).tmod l)) (True)) (([] : List Int) :: ([] : List Int) :: ([] : List (List Int)) = [[], []])) (sumPre e [f].length (nat_lit 8))) ((0 : Nat))) ((0 : Int))) ((n : Int))) ((k : Int))) (ouK bs n k)) (none)) ((1 : Int))) (List.length (bs.getD k []))) ((1 : Nat))) (by kernel_rfl) ?_
   simp only [zz]
   have hx : (modU .u64 (List.getD (bs.getD k []) 0 0)).tmod 1 = 0 := Int.tmod_one _
   have h0 : atV (bs.getD k []) 0 = 0 := Nat.le_zero.mp (atV_le _ 0)
   have e1 : ([0] ++ [] : List Int) = rwK (bs.getD k []) (0 + 1) := by rw [rwK, ins, h0]; try rfl
   have hi : idxPre (k : Int) 2 := by unfold idxPre; omega
   rw [hx]
   have fin : sumPre 0 0 8 ∧ sumPre 0 ([0] : List Int).length 8 ∧ slPre 0 0 (some 0) none none ∧ sumPre ([0] : List Int).length 0 8 ∧ inR .i64 1 ∧ ∃ y : Nat, (y + 1 ≤ n ∧ n - y < n + 1) ∧ (1 : Int) = y + 1 ∧ ([0] ++ [] : List Int) = rwK (bs.getD k []) (y + 1) :=
     ⟨by simp [sumPre], by simp [sumPre], by simp [slPre], by simp [sumPre], by simp [inR], 0, ⟨n1, by omega⟩, rfl, e1⟩
   exact ⟨fun _ => ⟨hi, fun h1 => ⟨hi, by unfold idxPre; omega, by simp [inR], by simp [inR], by decide, by simp [inR], by simp [slPre], fin⟩, fun _ => ⟨by simp [slPre], fin⟩⟩, fun h => by omega⟩
 · have hv : v + 1 ≤ n := hv
   have hr := rwK_len (bs.getD k []) (v + 1)
   have hle := atV_le (bs.getD k []) (v + 1)
   have hx := atV_lt (b := bs.getD k []) (v := v + 1)
   have hge := atV_ge (b := bs.getD k []) (v := v + 1)
   have eins : rwK (bs.getD k []) (v + 1 + 1) = (rwK (bs.getD k []) (v + 1)).take (atV (bs.getD k []) (v + 1)) ++ [(v : Int) + 1] ++ (rwK (bs.getD k []) (v + 1)).drop (atV (bs.getD k []) (v + 1)) := by rw [rwK, ins]; try rfl
   have hi : idxPre (k : Int) 2 := by unfold idxPre; omega
   have i1 : inR .i64 ((v : Int) + 1 + 1) := by simp only [inR]; omega
   have i2 : inR .u64 ((v : Int) + 1 + 1) := by simp only [inR]; omega
   have i3 : ¬ (v : Int) + 1 + 1 = 0 := by omega
   rw [show (((v + 1 : Nat) : Int) + 1) = (v : Int) + 1 + 1 by omega] at hx
   by_cases h0 : atV (bs.getD k []) (v + 1) = 0
   · refine ⟨X23 [1000048], Xw_ok _ _, rfl, rfl, rfl, rfl, ?_⟩
     refine of_eq (q := (fun (A : List Int) => (fun (u : Nat) => (fun (t : Nat) => (fun (m : Int) => (fun (l : Int) => (fun (i : Prop) => (fun (h : Option Int) => (fun (g : Option Int) => (fun (q : Nat) => (fun (f : Prop) => (fun (e : Prop) => (fun (c : Int) => (fun (w : Prop) => (fun (o : Int) => (fun (d : Prop) => (fun (b : Int) => (fun (s : Option Int) => (fun (a : List Int) => (fun (j : Nat) => (fun (z : List Int) => (fun (x : List Int) => (fun (r : List Int) => (fun (p : List Int) => f ∧ f ∧ f ∧ (c < m → f ∧ f ∧ f ∧ idxPre l (2 : Nat) ∧ f ∧ f ∧ f ∧ (c < (t : Int) → f ∧ idxPre l (2 : Nat) ∧ f ∧ f ∧ idxPre c t ∧ f ∧ f ∧ f ∧ inR .i64 o ∧ inR .u64 o ∧ ¬o = 0 ∧ inR .i64 b ∧ f ∧ f ∧ f ∧ f ∧ f ∧ slPre j j g s g ∧ (z = [] ∧ sumPre (0 : Nat) z.length (nat_lit 8)) ∧ f ∧ f ∧ f ∧ f ∧ w ∧ f ∧ f ∧ f ∧ f ∧ slPre j j s g g ∧ sumPre [c].length p.length (nat_lit 8) ∧ f ∧ f ∧ inR .i64 o ∧ f ∧ (d ∨ ∃ (y : Nat), (y + u ≤ n ∧ n - y < n - v) ∧ (m = m ∧ f ∧ f ∧ f ∧ l = l ∧ f ∧ o = (y : Int) + 1 ∧ f) ∧ bs = bs ∧ e ∧ i ∧ [c] ++ p = rwK A (y + u) ∧ f)) ∧ (¬c < (t : Int) → f ∧ f ∧ f ∧ f ∧ slPre j j g h g ∧ (x = [] ∧ sumPre (0 : Nat) x.length (nat_lit 8)) ∧ f ∧ f ∧ f ∧ f ∧ w ∧ f ∧ f ∧ f ∧ f ∧ slPre j j h g g ∧ sumPre [c].length r.length (nat_lit 8) ∧ f ∧ f ∧ inR .i64 o ∧ f ∧ (d ∨ ∃ (y : Nat), (y + u ≤ n ∧ n - y < n - v) ∧ (m = m ∧ f ∧ f ∧ f ∧ l = l ∧ f ∧ o = (y : Int) + 1 ∧ f) ∧ bs = bs ∧ e ∧ i ∧ [c] ++ r = rwK A (y + u) ∧ f))) ∧ (¬c < m → ∃ (y : Unit), f ∧ (m = m ∧ f ∧ f ∧ f ∧ l = l ∧ f ∧ f) ∧ bs = bs ∧ e ∧ i ∧ a = rwK A n ∧ f)) (List.take (bHi j g - bLo s) (List.drop (bLo s) a))) (List.take (bHi j g - bLo h) (List.drop (bLo h) a))) (List.take (bHi j h - q) (List.drop q a))) (List.take (bHi j s - q) (List.drop q a))) (a.length)) (rwK A (v + u))) (some b)) ((modU .u64 (List.getD (bs.getD k []) (v + u) (0 : Int))).tmod o)) (∃ (y : Unit), (f ∧ n + u < n - v) ∧ (m = m ∧ f ∧ f ∧ f ∧ l = l ∧ False ∧ o = 0 ∧ f) ∧ bs = bs ∧ e ∧ i ∧ f)) (c + 1)) (sumPre (0 : Nat) [c].length (nat_lit 8))) ((v : Int) + 1)) (([] : List Int) :: ([] : List Int) :: ([] : List (List Int)) = [[], []])) (True)) (bLo g)) (none)) (some (0 : Int))) (ouK bs n k = ouK bs n k)) ((k : Int))) ((n : Int))) (List.length (bs.getD k []))) ((1 : Nat))) (bs.getD k [])) (by kernel_rfl) ?_
     simp only [zz]
     have e0 : rwK (bs.getD k []) (v + 1 + 1) = [(v : Int) + 1] ++ rwK (bs.getD k []) (v + 1) := by rw [eins, h0]; try rfl
     refine ⟨fun h1 => ⟨hi, fun h2 => ⟨hi, by unfold idxPre; omega, i1, i2, i3, ?_, insN hr (by omega) hn e0 ((hx (by omega)).symm.trans (by rw [h0]; rfl))⟩, fun h2 => insN hr (by omega) hn e0 rfl⟩, fun h1 => by rw [show v + 1 = n by omega]⟩
     rw [← hx (by omega)]; simp only [inR]; omega
   · refine ⟨X23 [48], Xw_ok _ _, rfl, rfl, rfl, rfl, ?_⟩
     refine of_eq (q := (fun (x : List Int) => (fun (w : Nat) => (fun (u : Nat) => (fun (p : Int) => (fun (o : Int) => (fun (l : Option Int) => (fun (j : Prop) => (fun (i : Option Int) => (fun (h : Prop) => (fun (g : Prop) => (fun (c : Int) => (fun (m : Int) => (fun (r : Int) => (fun (f : Prop) => (fun (b : Option Int) => (fun (a : List Int) => (fun (q : Nat) => (fun (t : List Int) => (fun (s : List Int) => (fun (e : List Int) => (fun (d : List Int) => h ∧ h ∧ h ∧ (c < p → h ∧ h ∧ h ∧ idxPre o (2 : Nat) ∧ h ∧ h ∧ h ∧ (c < (u : Int) → h ∧ idxPre o (2 : Nat) ∧ h ∧ h ∧ idxPre c u ∧ h ∧ h ∧ h ∧ inR .i64 m ∧ inR .u64 m ∧ ¬m = 0 ∧ inR .i64 r ∧ h ∧ h ∧ h ∧ h ∧ h ∧ slPre q q i b i ∧ (e ≠ [] ∧ sumPre (0 : Nat) e.length (nat_lit 8)) ∧ h ∧ h ∧ h ∧ h ∧ sumPre e.length [c].length (nat_lit 8) ∧ h ∧ h ∧ h ∧ h ∧ slPre q q b i i ∧ sumPre (e ++ [c]).length s.length (nat_lit 8) ∧ h ∧ h ∧ inR .i64 m ∧ h ∧ (f ∨ ∃ (y : Nat), (y + w ≤ n ∧ n - y < n - v) ∧ (p = p ∧ h ∧ h ∧ h ∧ o = o ∧ h ∧ m = (y : Int) + 1 ∧ h) ∧ bs = bs ∧ g ∧ j ∧ e ++ [c] ++ s = rwK x (y + w) ∧ h)) ∧ (¬c < (u : Int) → h ∧ h ∧ h ∧ h ∧ slPre q q i l i ∧ (d ≠ [] ∧ sumPre (0 : Nat) d.length (nat_lit 8)) ∧ h ∧ h ∧ h ∧ h ∧ sumPre d.length [c].length (nat_lit 8) ∧ h ∧ h ∧ h ∧ h ∧ slPre q q l i i ∧ sumPre (d ++ [c]).length t.length (nat_lit 8) ∧ h ∧ h ∧ inR .i64 m ∧ h ∧ (f ∨ ∃ (y : Nat), (y + w ≤ n ∧ n - y < n - v) ∧ (p = p ∧ h ∧ h ∧ h ∧ o = o ∧ h ∧ m = (y : Int) + 1 ∧ h) ∧ bs = bs ∧ g ∧ j ∧ d ++ [c] ++ t = rwK x (y + w) ∧ h))) ∧ (¬c < p → ∃ (y : Unit), h ∧ (p = p ∧ h ∧ h ∧ h ∧ o = o ∧ h ∧ h) ∧ bs = bs ∧ g ∧ j ∧ a = rwK x n ∧ h)) (List.take (bHi q l - bLo i) (List.drop (bLo i) a))) (List.take (bHi q b - bLo i) (List.drop (bLo i) a))) (List.take (bHi q i - bLo b) (List.drop (bLo b) a))) (List.take (bHi q i - bLo l) (List.drop (bLo l) a))) (a.length)) (rwK x (v + w))) (some r)) (∃ (y : Unit), (h ∧ n + w < n - v) ∧ (p = p ∧ h ∧ h ∧ h ∧ o = o ∧ False ∧ m = 0 ∧ h) ∧ bs = bs ∧ g ∧ j ∧ h)) ((modU .u64 (List.getD (bs.getD k []) (v + w) (0 : Int))).tmod m)) (c + 1)) ((v : Int) + 1)) (([] : List Int) :: ([] : List Int) :: ([] : List (List Int)) = [[], []])) (True)) (none)) (ouK bs n k = ouK bs n k)) (some (0 : Int))) ((k : Int))) ((n : Int))) (List.length (bs.getD k []))) ((1 : Nat))) (bs.getD k [])) (by kernel_rfl) ?_
     simp only [zz]
     refine ⟨fun h1 => ⟨hi, fun h2 => ⟨hi, by unfold idxPre; omega, i1, i2, i3, ?_, insO hr (by omega) hn hle h0 eins (hx (by omega)).symm⟩, fun h2 => absurd (hge (by omega)) h0⟩, fun h1 => by rw [show v + 1 = n by omega]⟩
     rw [← hx (by omega)]; simp only [inR]; omega
def oA23 (n : Nat) (bs : List (List Int)) (k : Nat) : St := ⟨(.int .i64 n :: dd 2 ++ .ptr 0 0 [] :: .dead :: .ptr 1 0 [] :: .ptr 2 0 [] :: .int .i64 k :: dd 55), [.bx (.ar SI 2 bs), .bx (.ar SI 2 [[], []]), .bx (.ar SI 2 (ouK bs n k))]⟩
def xa23 (n : Nat) (bs : List (List Int)) : List (List Nat × Ex) := [([0, 5, 6], ⟨0, Unit, fun _ => True, fun _ => ⟨(.int .i64 n :: dd 4 ++ .ptr 0 0 [] :: .ptr 1 0 [] :: dd 56), [.bx (.ar SI 2 [[], []]), .bx (.ar SI 2 (ouK bs n 2))]⟩⟩)]
def ha23 (n : Nat) (bs : List (List Int)) : Hint := ⟨chk 0 [0, 3, 5, 6, 7] (fun k => k ≤ 2) (oA23 n bs), (xa23 n bs).map (·.2)⟩
theorem loop23a (n : Nat) (n1 : 1 ≤ n) (hn : n ≤ 7) (bs : List (List Int)) (hb : bs.length = 2) (R : Exit → St → Prop) : LoopOK (X23 []) L23_0 (ha23 n bs) R := by
 refine loop_ok (Xw_ok _ _) (H := fun k _ => some (hb23 n bs k)) [0, 3, 5, 6, 7] (fun k => k ≤ 2) (oA23 n bs) (fun k => 2 - k) (xa23 n bs) 250 fun (k : Nat) hk => ?_
 have hL := fun h R => loop23b n n1 hn bs hb k h R
 refine of_eq (q := (fun (f : Nat) => (fun (e : List (List Int)) => (fun (d : Int) => (fun (c : Prop) => (fun (b : Int) => (fun (a : Prop) => c ∧ c ∧ (b < 2 → c ∧ c ∧ LoopOK (X23 []) L23_2 (hb23 n bs k) (bodyR (Xw [] (h23 [(13 : Nat), (38 : Nat)])).m0 (xa23 n bs) R) ∧ ((∃ (y : Unit), c ∧ (d = d ∧ c ∧ c ∧ c ∧ b = b ∧ c ∧ (0 : Int) = 0 ∧ c) ∧ bs = bs ∧ a ∧ e = e ∧ c) ∨ ∃ (y : Nat), y + 1 ≤ n ∧ (d = d ∧ c ∧ c ∧ c ∧ b = b ∧ False ∧ (0 : Int) = (y : Int) + 1 ∧ c) ∧ bs = bs ∧ a ∧ e = e ∧ False) ∧ (∀ (y : Unit), c → c ∧ c ∧ idxPre b f ∧ c ∧ c ∧ inR .i64 (b + 1) ∧ c ∧ ∃ (y : Nat), (y ≤ f ∧ f - y < f - k) ∧ (d = d ∧ c ∧ c ∧ c ∧ b + 1 = (y : Int) ∧ c) ∧ bs = bs ∧ a ∧ e.set k (rwK (bs.getD k []) n) = ouK bs n y ∧ c) ∧ c) ∧ (¬b < 2 → ∃ (y : Unit), c ∧ (d = d ∧ c ∧ c ∧ c) ∧ a ∧ e = ouK bs n f ∧ c)) (([] : List Int) :: ([] : List Int) :: ([] : List (List Int)) = [[], []])) ((k : Int))) (True)) ((n : Int))) (ouK bs n k)) ((2 : Nat))) (by kernel_rfl) ?_
 simp only [zz]
 exact ⟨fun h1 => ⟨hL (by omega) _, fun _ _ => ⟨by unfold idxPre; omega, in1 (by omega), k + 1, ⟨by omega, by omega⟩, by omega, rfl⟩⟩, fun h1 => by rw [show k = 2 by omega]⟩
/-- Two lists of all nodes. -/
def lnS (n : Int) (b : List Int × List Int) : List Int × List Int := (rwK b.1 (tmM n 7), rwK b.2 (tmM n 7))
theorem call23 (n : Int) (b : List Int × List Int) (hb : b.1.length < 1000000000000000 ∧ b.2.length < 1000000000000000) : GCall Try.prog gl 23 false [.int .i64 n, .ar SI 2 [b.1, b.2]] [] [.int .i64 (tmM n 7), .ar SI 2 [(lnS n b).1, (lnS n b).2]] [] := by
 refine gcall_of (X := (X23 [])) ((Xw_ok _ _)) (f := 23) (fn := Try.f23) (c := bodyOf Try.f23) (by kernel_rfl) (by kernel_rfl) (view := true) (rvs := [.tmp 4, .cell 5 32]) (by kernel_rfl) (H := (fun _ => some (ha23 (tmM n 7) [b.1, b.2]))) 150 (by kernel_rfl) ?_
 have hL := fun h1 h2 R => loop23a (tmM n 7) h1 h2 [b.1, b.2] rfl R
 refine of_eq (q := (fun (f : List (List Int)) => (fun (e : List (List Int)) => (fun (d : Prop) => (fun (c : Int) => (fun (a : Nat) => d ∧ d ∧ d ∧ d ∧ d ∧ ¬(7 : Int) = 0 ∧ inR .i64 c ∧ inR .i64 ((1 : Int) + c) ∧ d ∧ d ∧ d ∧ LoopOK (X23 []) L23_0 (ha23 a f) (RetR (X23 []) false true [ResultVar.tmp (4 : Tmp), ResultVar.cell (5 : Tmp) (32 : TypeId)] [AV.int .i64 (a : Int), AV.ar SI (2 : Nat) [(lnS n b).fst, (lnS n b).snd]] []) ∧ (∃ (y : Nat), y ≤ 2 ∧ ((1 : Int) + c = (a : Int) ∧ d ∧ d ∧ d ∧ (0 : Int) = (y : Int) ∧ d) ∧ [b.fst, b.snd] = f ∧ e = [[], []] ∧ e = ouK f a y ∧ d) ∧ (∀ (y : Unit), d → d ∧ d ∧ d ∧ d ∧ (d ∧ d) ∧ ((a : Int) = (a : Int) ∧ ouK f a (2 : Nat) = [(lnS n b).fst, (lnS n b).snd] ∧ d) ∧ d) ∧ d) (tmM n (7 : Nat))) ((modU .u64 n).tmod (7 : Int))) (True)) (([] : List Int) :: ([] : List Int) :: ([] : List (List Int)))) ([b.fst, b.snd])) (by kernel_rfl) ?_
 simp only [zz]
 obtain ⟨m1, m7⟩ := tmM_bd (n := n) (most := 7) (by omega)
 have hb7 := tmc_bd (m := 7) (by omega) n
 have e : 1 + (modU .u64 n).tmod 7 = ((tmM n 7 : Nat) : Int) := by
   show 1 + tmc 7 n = _
   unfold tmM; omega
 have r := tm_rg (m := 7) (by omega) (by omega) n
 refine ⟨by decide, r, by rw [e]; simp only [inR]; omega, hL m1 m7 _, ⟨0, by omega, ⟨e, rfl⟩, rfl⟩, fun _ _ => ?_⟩
 rfl
def e23 : Entry Try.prog gl := entry2 23 ⟨Try.f23, by kernel_rfl, by kernel_rfl, by kernel_rfl⟩ I64 (.a2 SI) (fun _ b => (b : List Int × List Int).1.length < 1000000000000000 ∧ b.2.length < 1000000000000000) false (fun (n : Int) b => [.int .i64 (tmM n 7), .ar SI 2 [(lnS n b).1, (lnS n b).2]]) (fun _ _ => []) (fun n b h => call23 n b h)
theorem rwK_ok (b : List Int) : ∀ v, (rwK b v).Nodup ∧ ∀ x, x ∈ rwK b v → 0 ≤ x ∧ x < v
 | 0 => ⟨by simp [rwK], by simp [rwK]⟩
 | v + 1 => by
   obtain ⟨h1, h2⟩ := rwK_ok b v
   have hp : (rwK b (v + 1)).Perm ((v : Int) :: rwK b v) := by
     rw [rwK, ins]
     generalize rwK b v = r
     generalize atV b v = q
     have : (r.take q ++ [(v : Int)] ++ r.drop q).Perm ((v : Int) :: (r.take q ++ r.drop q)) := by
       rw [List.append_assoc]
       exact List.perm_middle
     rwa [List.take_append_drop] at this
   refine ⟨hp.nodup_iff.mpr (List.nodup_cons.mpr ⟨fun hm => by have := h2 _ hm; omega, h1⟩), fun x hx => ?_⟩
   rcases List.mem_cons.mp (hp.mem_iff.mp hx) with rfl | hx
   · omega
   · have := h2 x hx; omega
theorem pl_of_nodup {n : Nat} {l : List Int} (h1 : l.Nodup) (h2 : ∀ x, x ∈ l → 0 ≤ x ∧ x < n) (h3 : l.length = n) : plB n l = true := by
 refine decide_eq_true ⟨by omega, fun j hj => ⟨h2 _ (mem_getD hj), fun hm => ?_⟩⟩
 obtain ⟨i, hi, e⟩ := List.mem_take_iff_getElem.mp hm
 rw [getD_lt hj] at e
 exact List.pairwise_iff_getElem.mp h1 i j (by omega) hj (by omega) e
theorem pl_lnS (n : Int) (b : List Int × List Int) : plB (tmM n 7) (lnS n b).1 = true ∧ plB (tmM n 7) (lnS n b).2 = true :=
 ⟨pl_of_nodup (rwK_ok _ _).1 (rwK_ok _ _).2 (rwK_len _ _), pl_of_nodup (rwK_ok _ _).1 (rwK_ok _ _).2 (rwK_len _ _)⟩
theorem pl_nodup {n : Nat} {l : List Int} (h : plB n l = true) : l.Nodup ∧ l.length = n ∧ ∀ x, x ∈ l → 0 ≤ x ∧ x < n := by
 obtain ⟨h1, h2⟩ := of_decide_eq_true h
 refine ⟨?_, by omega, fun x hx => ?_⟩
 · rw [List.Nodup, List.pairwise_iff_getElem]
   intro i j hi hj hij e
   refine (h2 j hj).2 ?_
   rw [getD_lt hj, ← e]
   exact List.mem_take_iff_getElem.mpr ⟨i, by omega, rfl⟩
 · obtain ⟨i, hi, e⟩ := List.getElem_of_mem hx
   have := (h2 i hi).1
   rw [getD_lt hi, e] at this
   exact this
/-- What two lines have in common. -/
structure cmF (n : Nat) (r : RF) : Prop where
 lt : ∀ x y, r x y = true → x < n ∧ y < n
 tr : trB r = true
theorem cm_iff {n : Nat} {p q : List Int} (h : cmB n p q = true) {a b : Nat} : cmR n p q a b = true ↔ (a < n ∧ b < n) ∧ (plR n p).getD a 0 < (plR n p).getD b 0 ∧ (plR n q).getD a 0 < (plR n q).getD b 0 := by
 unfold cmR
 rw [if_pos h]
 unfold inn bo lo
 simp only [Int.toNat_natCast, Bool.and_eq_true, decide_eq_true_eq]
theorem cm_ok {n : Nat} {p q : List Int} (h : cmB n p q = true) (hn : n ≤ 7) : cmF n (cmR n p q) := by
 refine ⟨fun x y hxy => ((cm_iff h).mp hxy).1, decide_eq_true fun a ha b hb hab => ?_⟩
 obtain ⟨h1, h2, h3⟩ := (cm_iff h).mp hab
 refine ⟨?_, fun c hc hbc => ?_⟩
 · cases hq : cmR n p q b a with
   | false => rfl
   | true => obtain ⟨_, h4, _⟩ := (cm_iff h).mp hq; omega
 · obtain ⟨h4, h5, h6⟩ := (cm_iff h).mp hbc
   exact (cm_iff h).mpr ⟨⟨h1.1, h4.2⟩, by omega, by omega⟩
theorem cm_given {n : Nat} (n1 : 1 ≤ n) (hn : n ≤ 7) {r : RF} (h : cmF n r) : orOk n (prK r 7 49) := by
 have ht : trB (adL zf (prK r 7 49)) = true := (trB_ext fun x y hx hy => adL_prK hx hy).trans h.tr
 refine ⟨by omega, fun k hk => ?_, ?_, ht⟩
 · obtain ⟨a, b, h1, h3, h4, h5⟩ := (prK_mem (by decide)).mp (mem_getD (d := (0, 0)) hk)
   have h6 := h.lt a b h5
   have hne : a ≠ b := fun e => by rw [e, trB_irr h.tr h3] at h5; cases h5
   refine ⟨?_, ?_, ?_, fun h0 => prK_sort (by omega) hk⟩ <;> (rw [h1]; simp only; omega)
 · have := prK_len r 7 49
   omega
def b2 (P : RF) (x y : Nat) : Nat := if P x y = true then 1 else 0
def cK (P : RF) : Nat → Nat
 | 0 => 0
 | q + 1 => cK P q + b2 P (q / 7) (q % 7)
theorem cK_len (P : RF) : ∀ q, (prK P 7 q).length = cK P q
 | 0 => rfl
 | q + 1 => by
   rw [prK, cK, ← cK_len P q]
   unfold b2
   split
   · rw [List.length_append]; try rfl
   · rfl
theorem cK_add {P Q R : RF} (h : ∀ x y, x < 7 → y < 7 → b2 P x y = b2 Q x y + b2 R x y) : ∀ q, q ≤ 49 → cK P q = cK Q q + cK R q
 | 0, _ => rfl
 | q + 1, hq => by
   rw [cK, cK, cK, cK_add h q (by omega), h (q / 7) (q % 7) (by omega) (Nat.mod_lt _ (by decide))]
   omega
theorem cK_sw (P : RF) : cK P 49 = cK (sw P) 49 := by
 have e : ∀ x y, b2 (sw P) x y = b2 P y x := fun _ _ => rfl
 simp only [cK, e, Nat.reduceDiv, Nat.reduceMod]
 omega
theorem cK_all (n : Nat) (hn : n ≤ 7) : cK (fun x y => decide (x < y) && decide (y < n)) 49 = n * (n - 1) / 2 := by
 rcases show n = 0 ∨ n = 1 ∨ n = 2 ∨ n = 3 ∨ n = 4 ∨ n = 5 ∨ n = 6 ∨ n = 7 by omega with rfl | rfl | rfl | rfl | rfl | rfl | rfl | rfl <;> decide +kernel
theorem pairs {n : Nat} (hn : n ≤ 7) {r : RF} (h : cmF n r) : (L46 n (otR n (both r))).length + (prK r 7 49).length = n * (n - 1) / 2 := by
 have hlt := h.lt
 have ha : ∀ x y, x < 7 → y < 7 → r x y = true → r y x = true → False := fun x y hx hy h1 h2 => by
   have := (of_decide_eq_true h.tr x hx y hy h1).1
   rw [h2] at this; cases this
 have hir : ∀ x, x < 7 → r x x = false := fun x hx => trB_irr h.tr hx
 rw [L46, cK_len, cK_len, ← cK_all n hn]
 have e1 : cK r 49 = cK (fun x y => decide (x < y) && r x y) 49 + cK (sw fun x y => decide (x < y) && r y x) 49 := cK_add (fun x y hx hy => by
   unfold b2 sw
   rcases Nat.lt_trichotomy x y with h1 | h1 | h1
   · have h2 : ¬ y < x := by omega
     simp [h1, h2]
   · subst h1; simp [hir x hx]
   · have h2 : ¬ x < y := by omega
     simp [h1, h2]) 49 (Nat.le_refl _)
 rw [e1, ← cK_sw]
 have e2 : cK (fun x y => decide (x < y) && decide (y < n)) 49 = cK (P46 n (otR n (both r))) 49 + cK (fun x y => decide (x < y) && jo r (sw r) x y) 49 := cK_add (fun x y hx hy => by
   unfold b2 P46 otR both jo sw
   cases h1 : r x y with
   | true => have := hlt x y h1; by_cases h2 : x < y <;> simp [h2, this.2, h1]
   | false =>
     cases h2 : r y x with
     | true => have := hlt y x h2; by_cases h3 : x < y <;> simp [h3, this.1, h1, h2]
     | false =>
       by_cases h3 : x < y
       · by_cases h4 : y < n
         · have : x < n := by omega
           have h5 : ¬ x = y := by omega
           simp [h3, h4, this, h5, h1, h2]
         · simp [h3, h4, h1, h2]
       · simp [h3]) 49 (Nat.le_refl _)
 have e3 : cK (fun x y => decide (x < y) && jo r (sw r) x y) 49 = cK (fun x y => decide (x < y) && r x y) 49 + cK (fun x y => decide (x < y) && r y x) 49 := cK_add (fun x y hx hy => by
   unfold b2 jo sw
   cases h1 : r x y with
   | true =>
     cases h2 : r y x with
     | true => exact (ha x y hx hy h1 h2).elim
     | false => by_cases h3 : x < y <;> simp [h3, h1, h2]
   | false =>
     cases h2 : r y x with
     | true => by_cases h3 : x < y <;> simp [h3, h1, h2]
     | false => by_cases h3 : x < y <;> simp [h3, h1, h2]) 49 (Nat.le_refl _)
 omega
end Go.Am.Or

/- Orders: the law of Pnueli. -/
namespace Go.Am.Or
open Go Go.Am Go.Proofs
/-- What is known of the graph and of the lines. -/
structure F7 (m : Nat) (e : LP) : Prop where
 m1 : 1 ≤ m
 m7 : m ≤ 7
 ge : grOk m e
 go : grOk m (L46 m (otR m (eg e)))
 tk : (orR m (eg e)).2 = true → orOk m (orL m e)
 too : (orR m (eg (L46 m (otR m (eg e))))).2 = (orR m (otR m (eg e))).2
 rl : (orR m (eg e)).2 = true → rzB m (orL m e) = (orR m (otR m (eg e))).2
theorem F7_of {m : Nat} (m1 : 1 ≤ m) (m7 : m ≤ 7) {e : LP} (ge : grOk m e) : F7 m e := by
 have hg := gr_eg ge
 have ho := gr_ot hg
 have tok : (orR m (eg e)).2 = true → orOk m (orL m e) ∧ isOr m (eg e) (adL zf (orL m e)) := fun h => by
   have eo : orL m e = prK (orR m (eg e)).1 7 49 := by unfold orL; rw [if_pos h]
   rw [eo]; exact told_ok hg (orR_isOr hg h)
 refine ⟨m1, m7, ge, L46_ok m1 m7 _, fun h => (tok h).1, ?_, fun h => ?_⟩
 · rw [orR_ext m1 m7 (fun x y hx hy => eg_back ho hx hy)]
 · unfold rzB
   rw [orR_ext m1 m7 (g := otR m (eg e)) (otR_ext fun x y hx hy => ?_)]
   rw [Bool.eq_iff_iff, (tok h).2.of x y hx hy]
   unfold both jo sw
   rw [Bool.or_eq_true]
structure F7b (k : Nat) (l : List Int × List Int) : Prop where
 k1 : 1 ≤ k
 k7 : k ≤ 7
 o : ok60 k l
 e0 : cmE k l.1 l.2 = 0
 dl : (dnL k l).length ≤ 49
 cl : (cnL k l).length ≤ 49
 sum : ((dnL k l).length : Int) + (cnL k l).length = Int.tdiv ((k : Int) * ((k : Int) - 1)) 2
 no : ∀ i, i < (cnL k l).length → hasB (dnL k l) (minI ((cnL k l).getD i (0, 0)).1 ((cnL k l).getD i (0, 0)).2, maxI ((cnL k l).getD i (0, 0)).1 ((cnL k l).getD i (0, 0)).2) = false
 ok : orOk k (cnL k l)
theorem F7b_of {k : Nat} (k1 : 1 ≤ k) (k7 : k ≤ 7) {l : List Int × List Int} (h1 : plB k l.1 = true) (h2 : plB k l.2 = true) : F7b k l := by
 have hb : cmB k l.1 l.2 = true := by
   unfold cmB
   rw [h1, h2, decide_eq_true (by omega)]; try rfl
 have hc := cm_ok hb k7
 have hp := pairs k7 hc
 have ed : dnL k l = L46 k (otR k (both (cmR k l.1 l.2))) := by unfold dnL; rw [if_pos hb, Int.toNat_natCast]
 have l1 := (pl_nodup h1).2.1
 have l2 := (pl_nodup h2).2.1
 rw [← ed] at hp
 refine ⟨k1, k7, ⟨by omega, by omega⟩, by unfold cmE; rw [if_pos hb], ?_, prK_len _ 7 49, ?_, fun i hi => ?_, cm_given k1 k7 hc⟩
 · rw [ed]; exact prK_len _ 7 49
 · have e3 : (cnL k l).length = (prK (cmR k l.1 l.2) 7 49).length := rfl
   rw [e3]
   have e4 : Int.tdiv ((k : Int) * ((k : Int) - 1)) 2 = ((k * (k - 1) / 2 : Nat) : Int) := by
     rw [show ((k : Int) - 1) = ((k - 1 : Nat) : Int) by omega, ← Int.natCast_mul]; try rfl
   rw [e4, ← hp]; simp
 · obtain ⟨a, b, g1, g2, g3, g4⟩ := (prK_mem (by decide)).mp (mem_getD (d := (0, 0)) hi)
   have g5 : (cnL k l).getD i (0, 0) = ((a : Int), (b : Int)) := g1
   rw [g5]
   refine decide_eq_false fun hm => ?_
   rw [ed] at hm
   obtain ⟨c, d, k2, k3, k4, k5, k6⟩ := L46_mem.mp hm
   have hor : (c = a ∧ d = b) ∨ (c = b ∧ d = a) := by
     have e1 := congrArg Prod.fst k2
     have e2 := congrArg Prod.snd k2
     simp only [minI, maxI] at e1 e2
     split at e1 <;> split at e2 <;> omega
   have : both (cmR k l.1 l.2) c d = true := by
     unfold both jo sw
     rcases hor with ⟨rfl, rfl⟩ | ⟨rfl, rfl⟩
     · rw [g4]; try rfl
     · rw [g4]; simp
   unfold otR at k6
   rw [this] at k6
   simp at k6
noncomputable abbrev X7 : Cy := X [e10, e34, e24, e14, e35, e23, e20, e21, e36, e37, e13]
noncomputable def L7_0 : Code := lp (bodyOf Try.f7) 0
def st7 (k : Nat) (d c : LP) (i : Nat) : St := ⟨(dd 23 ++ .int .i64 k :: .dead :: .sl P2 d :: .dead :: .sl P2 c :: .dead :: .int .i64 i :: dd 138), []⟩
def ex7 (k : Nat) (d c : LP) : List (List Nat × Ex) := [([23, 27], ⟨0, Unit, fun _ => True, fun _ => ⟨(dd 23 ++ .int .i64 k :: dd 3 ++ .sl P2 c :: dd 140), []⟩⟩)]
def h7 (k : Nat) (d c : LP) : Hint := ⟨chk 0 [23, 25, 27, 29] (fun i => i ≤ c.length) (st7 k d c), (ex7 k d c).map (·.2)⟩
theorem loop7 (k : Nat) (l : List Int × List Int) (F : F7b k l) : LoopOK X7 L7_0 (h7 k (dnL k l) (cnL k l)) (RetR X7 true false [.tmp 6] [.tt] []) := by
 have hcl := F.cl
 have hdl := F.dl
 have hno := F.no
 generalize cnL k l = c at *
 generalize dnL k l = d at *
 refine loop_ok (X_ok _) (H := fun _ _ => none) [23, 25, 27, 29] (fun i => i ≤ c.length) (st7 k d c) (fun i => c.length - i) (ex7 k d c) 250 fun (i : Nat) hi => ?_
 refine of_eq (q := (fun (f : Int) => (fun (b : Prop) => (fun (a : Int × Int) => (fun (e : Bool) => b ∧ b ∧ b ∧ b ∧ (f < (↑(List.length c) : Int) → b ∧ b ∧ idxPre f (List.length c) ∧ b ∧ b ∧ b ∧ b ∧ idxPre (0 : Int) (2 : Nat) ∧ b ∧ idxPre (1 : Int) (2 : Nat) ∧ b ∧ b ∧ idxPre (0 : Int) (2 : Nat) ∧ b ∧ idxPre (1 : Int) (2 : Nat) ∧ b ∧ b ∧ b ∧ (List.length d + 1 ≤ 1000000000000000 ∧ b) ∧ (e = true → b ∧ b ∧ (false = true ∧ b) ∧ b) ∧ (e = false → b ∧ inR .i64 (f + 1) ∧ b ∧ ∃ (y : Nat), (y ≤ List.length c ∧ List.length c - y < List.length c - i) ∧ ((k : Int) = (k : Int) ∧ d = d ∧ c = c ∧ f + 1 = (y : Int) ∧ b) ∧ b)) ∧ (¬f < (↑(List.length c) : Int) → ∃ (y : Unit), b ∧ ((k : Int) = (k : Int) ∧ c = c ∧ b) ∧ b)) (hasB d (minI a.fst a.snd, maxI a.fst a.snd))) (List.getD c i ((0 : Int), (0 : Int)))) (True)) ((i : Int))) (by kernel_rfl) ?_
 simp only [zz]
 refine ⟨fun h1 => ?_, fun _ => trivial⟩
 have h1 : i < c.length := by omega
 have h2 := hno i h1
 exact ⟨idx_nat h1, i02, i12, i02, i12, by omega, fun h3 => h2.symm.trans h3, fun _ => ⟨in1 (by omega), i + 1, ⟨by omega, by omega⟩, by omega⟩⟩
theorem call7 (n : Int) (l : LP) (b : List Int × List Int) (hl : l.length < 1000000000000000) (hb : b.1.length < 1000000000000000 ∧ b.2.length < 1000000000000000) : GCall Try.prog gl 7 true [.int .i64 n, .sl P2 l, .ar SI 2 [b.1, b.2]] [] [.tt] [] := by
 obtain ⟨b1, b2⟩ := b
 obtain ⟨m1, m7⟩ := tmM_bd (n := n) (most := 7) (by omega)
 have F : F7 (tmM n 7) (tmL (tmM n 7) l) := F7_of m1 m7 (L46_ok m1 m7 _)
 have F' : F7b (tmM n 7) (lnS n (b1, b2)) := F7b_of m1 m7 (pl_lnS n _).1 (pl_lnS n _).2
 refine gcall_of (X := X7) ((X_ok _)) (f := 7) (fn := Try.f7) (c := bodyOf Try.f7) (by kernel_rfl) (by kernel_rfl) (view := false) (rvs := [.tmp 6]) (by kernel_rfl) (H := (fun _ => some (h7 (tmM n 7) (dnL (tmM n 7) (lnS n (b1, b2))) (cnL (tmM n 7) (lnS n (b1, b2)))))) 400 (by kernel_rfl) ?_
 have hL := loop7 (tmM n 7) (lnS n (b1, b2)) F'
 refine of_eq (q := (fun (v : List Int × List Int) => (fun (j : Int) => (fun (r : Prop) => (fun (f : Prop) => (fun (e : List Int × List Int) => (fun (t : List Int × List Int) => (fun (d : Prop) => (fun (w : Prop) => (fun (s : Prop) => (fun (b : Nat) => (fun (i : LP) => (fun (p : Bool) => (fun (h : Bool) => (fun (g : Int) => (fun (u : Prop) => (fun (q : Int) => (fun (o : Prop) => (fun (m : LP) => (fun (k : Int) => (fun (a : Prop) => (fun (c : Prop) => f ∧ f ∧ f ∧ f ∧ ((((1 : Int) ≤ 7 ∧ (7 : Int) ≤ 7) ∧ List.length l < 1000000000000000) ∧ f) ∧ f ∧ f ∧ f ∧ f ∧ f ∧ f ∧ f ∧ u ∧ f ∧ f ∧ f ∧ f ∧ f ∧ f ∧ f ∧ u ∧ f ∧ f ∧ f ∧ f ∧ f ∧ f ∧ f ∧ f ∧ f ∧ (grOk g (L46 b (otR b (eg i))) ∧ f) ∧ f ∧ f ∧ f ∧ f ∧ f ∧ f ∧ f ∧ f ∧ f ∧ u ∧ f ∧ f ∧ f ∧ f ∧ f ∧ f ∧ f ∧ f ∧ f ∧ f ∧ f ∧ (r → f ∧ f ∧ f ∧ f ∧ s) ∧ (¬r → f ∧ f ∧ f ∧ f ∧ (r → f ∧ f ∧ s) ∧ (¬r → f ∧ f ∧ f ∧ f ∧ (r → s) ∧ (¬r → f ∧ f ∧ f ∧ f ∧ (r → w) ∧ (¬r → f ∧ f ∧ f ∧ (p = true → f ∧ f ∧ f ∧ f ∧ ((drB b i != h) = true → d) ∧ ((drB b i != h) = false → c)) ∧ (p = false → f ∧ f ∧ f ∧ ((drB b i != false) = true → d) ∧ ((drB b i != false) = false → c))))))) (f ∧ (p = true → f ∧ f ∧ (orOk g (orL b i) ∧ f) ∧ f ∧ f ∧ f ∧ f ∧ f ∧ f ∧ f ∧ f ∧ f ∧ f ∧ f ∧ (r → w) ∧ (¬r → f ∧ f ∧ f ∧ f ∧ ((rzB b (orL b i) != h) = true → d) ∧ ((rzB b (orL b i) != h) = false → a))) ∧ (p = false → a))) (f ∧ f ∧ ((b1.length < 1000000000000000 ∧ b2.length < 1000000000000000) ∧ f) ∧ f ∧ f ∧ f ∧ f ∧ f ∧ f ∧ f ∧ f ∧ (ok60 g t ∧ f) ∧ f ∧ f ∧ f ∧ f ∧ f ∧ f ∧ f ∧ (ok60 g t ∧ f) ∧ f ∧ f ∧ f ∧ f ∧ f ∧ f ∧ f ∧ f ∧ (o → s) ∧ (¬o → f ∧ f ∧ f ∧ f ∧ (o → w) ∧ (¬o → f ∧ f ∧ f ∧ f ∧ inR .i64 k ∧ f ∧ f ∧ inR .i64 (g - 1) ∧ inR .i64 (g * (g - 1)) ∧ (¬(2 : Int) = j ∧ inR .i64 q) ∧ f ∧ f ∧ (¬k = q → d) ∧ (¬¬k = q → f ∧ LoopOK X7 L7_0 (h7 b (dnL g v) m) (RetR X7 true false [ResultVar.tmp (6 : Tmp)] [AV.tt] []) ∧ (∃ (y : Nat), y ≤ List.length m ∧ (g = g ∧ dnL g t = dnL g v ∧ cnL g t = m ∧ j = (y : Int) ∧ f) ∧ f) ∧ (∀ (y : Unit), f → f ∧ f ∧ (orOk g m ∧ f) ∧ f ∧ f ∧ (j = j → (f ∧ f) ∧ f ∧ f ∧ f ∧ (true = true ∧ f) ∧ f) ∧ (r → w)) ∧ f))))) ((↑(List.length (dnL g t)) : Int) + (↑(List.length (cnL g t)) : Int))) (cnL g v)) (¬cmE g e.fst e.snd = j)) ((g * (g - 1)).tdiv (2 : Int))) (grOk g i ∧ f)) ((b : Int))) ((orR b (eg (L46 b (otR b (eg i))))).snd)) ((orR b (eg i)).snd)) (tmL b l)) (tmM n (7 : Nat))) (f ∧ f ∧ w)) (f ∧ d)) (f ∧ f ∧ (false = true ∧ f) ∧ f)) ((e.fst, e.snd))) (lnS n (b1, b2))) (True)) (¬j = j)) ((0 : Int))) (lnS n (b1, b2))) (by kernel_rfl) ?_
 simp only [zz]
 generalize lnS n (b1, b2) = ls at *
 generalize tmM n 7 = m at *
 generalize tmL m l = e at *
 obtain ⟨l1, l2⟩ := ls
 have g1 := F'.o
 have g2 := F'.e0
 have g3 := F'.dl
 have g4 := F'.cl
 have g5 := F'.sum
 have g6 := F'.ok
 have f1 := F.ge
 have f2 := F.go
 have f3 := F.tk
 have f4 := F.rl
 simp only at g1 g2 g3 g4 g5 g6
 have hm : (0 : Int) ≤ (m : Int) * ((m : Int) - 1) ∧ (m : Int) * ((m : Int) - 1) ≤ 42 := by
   rcases show m = 1 ∨ m = 2 ∨ m = 3 ∨ m = 4 ∨ m = 5 ∨ m = 6 ∨ m = 7 by omega with rfl | rfl | rfl | rfl | rfl | rfl | rfl <;> decide
 have i1 : inR .i64 (((dnL m (l1, l2)).length : Int) + (cnL m (l1, l2)).length) := by simp only [inR]; omega
 have i2 : inR .i64 ((m : Int) - 1) := by simp only [inR]; omega
 have i3 : inR .i64 ((m : Int) * ((m : Int) - 1)) := by simp only [inR]; omega
 have i4 : inR .i64 (Int.tdiv ((m : Int) * ((m : Int) - 1)) 2) := by rw [← g5]; exact i1
 have hex : ∃ y : Nat, y ≤ (cnL m (l1, l2)).length ∧ (0 : Int) = y := ⟨0, Nat.zero_le _, rfl⟩
 rw [F.too, g2]
 unfold drB
 cases hA : (orR m (eg e)).2 with
 | false => cases hZ : (orR m (otR m (eg e))).2 <;> simp [hl, hb, f1, f2, g1, g5, g6, i1, i2, i3, i4, hL, hex]
 | true =>
   rw [f4 hA]
   have f5 := f3 hA
   cases hZ : (orR m (otR m (eg e))).2 <;> simp [hl, hb, f1, f2, f5, g1, g5, g6, i1, i2, i3, i4, hL, hex]
end Go.Am.Or

/- Orders: from the laws' contracts to the given statements: what all laws share. -/
namespace Go.Proofs.Ytlfigncfoiofgaa
open Go Go.ChangeShapes Go.WideShapes Go.ChangeAt Go.RowKit Go.Am Go.Am.Or
theorem own : ownKnob Try.prog.godebug = none := by kernel_rfl
theorem laidOut : laidOutB Try.prog = true := by kernel_rfl
theorem u3 : Try.prog.underlying 3 = some (.int .i64) := by kernel_rfl
theorem u4 : Try.prog.underlying 4 = some .bool := by kernel_rfl
theorem u31 : Try.prog.underlying 31 = some (.slice 3) := by kernel_rfl
theorem u52 : Try.prog.underlying 52 = some (.array 2 3) := by kernel_rfl
theorem u22 : Try.prog.underlying 22 = some (.slice 52) := by kernel_rfl
theorem u32 : Try.prog.underlying 32 = some (.array 2 31) := by kernel_rfl
theorem tyOk3 : TyOk Try.prog 3 I64 := u3
theorem tyOk31 : TyOk Try.prog 31 (.sl I64) := ⟨3, u31, u3, by kernel_rfl, by decide, of_decide_eq_true (by kernel_rfl)⟩
theorem tyOk52 : TyOk Try.prog 52 P2 := ⟨3, u52, u3, by kernel_rfl, by kernel_rfl⟩
theorem tyOk22 : TyOk Try.prog 22 (.sl P2) := ⟨52, u22, tyOk52, by kernel_rfl, by decide, of_decide_eq_true (by kernel_rfl)⟩
theorem tyOk32 : TyOk Try.prog 32 (.a2 (.sl I64)) := ⟨31, u32, tyOk31, by kernel_rfl, by kernel_rfl⟩
theorem reach_le {l : List Nat} (h : l.all (fun x => decide (x ≤ reachBytes)) = true) : ∀ n ∈ l, n ≤ 140737488355328 := fun n hn => by
 have := of_decide_eq_true (List.all_eq_true.mp h n hn)
 have e : reachBytes = 140737488351232 := rfl
 omega
theorem glob_of {W : World} : GlobOk gl (fun b => b < W.heap.size) W := fun g p hp => by cases hp
theorem two_len {F : Nat → Prop} {w : World} {x : List Int × List Int} {cs : List Value} (h : CD F w (.a2 (.sl I64)) x cs) : x.1.length < 1000000000000000 ∧ x.2.length < 1000000000000000 := by
 simp only [CD] at h
 obtain ⟨c1, c2, _, h1, h2⟩ := h
 have := CD.sl_len (e := I64) (xs := x.1) (by simpa only [CD] using h1)
 have := CD.sl_len (e := I64) (xs := x.2) (by simpa only [CD] using h2)
 exact ⟨by omega, by omega⟩
end Go.Proofs.Ytlfigncfoiofgaa
