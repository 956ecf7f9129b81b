/- Part B5 of the proof that the law named in the last file returns true at every input and leaves its arguments as they were; no condition of its own. -/
import Derived.Test.YtfpoonbcnabihaaB4
import Derived.Test.YtfpoonbcnabihaaA2
import Derived.Test.YtfpoonbcnabihaaB3
import Derived.Test.YtfpoonbcnabihaaRows
import Derived.WalkKit
import Derived.ProofKit
import Derived.OpenShut
import Derived.SizedLaws
import Derived.ChangeOld
import Derived.Below
import Derived.Stop.Joined
set_option linter.unusedSimpArgs false
set_option linter.unusedVariables false
/- Shells, plain: hollow numbers are not negative. -/
namespace Go.Am.Sh
open Go Go.Am Go.Proofs
theorem row_sub : ∀ x j : Fin 64, (row x.val).testBit j.val = true -> sub j.val x.val = true /\ pc j.val + 1 = pc x.val := by decide +kernel
theorem bd_one {x : Nat} (hx : x < 64) : ∀ k, bd (2 ^ x) k = if x < k then row x else 0
 | 0 => by rw [bd, if_neg (by omega)]
 | k + 1 => by
   rw [bd, bd_one hx k, Nat.testBit_two_pow]
   rcases Nat.lt_trichotomy x k with h | h | h
   · rw [if_neg (by simp; omega), if_pos h, if_pos (by omega)]
   · subst h
     rw [if_pos (by simp), if_neg (by omega), if_pos (by omega), Nat.zero_xor]
   · rw [if_neg (by simp; omega), if_neg (by omega), if_neg (by omega)]
/-- Sets of faces with k + 1 corners. -/
def fK (p : List Int) (k : Nat) (x : Nat) : Bool := isF p x && decide (pc x = k)
def supp (F : Nat -> Bool) (u : Nat) : Prop := u < 2 ^ 64 /\ ∀ j, u.testBit j = true -> F j = true
theorem supp_lin (F : Nat -> Bool) : Lin (supp F) := ⟨⟨Nat.two_pow_pos _, fun j hj => by simp at hj⟩, fun u v hu hv => ⟨Nat.xor_lt_two_pow hu.1 hv.1, fun j hj => by
 rw [Nat.testBit_xor] at hj
 cases e : u.testBit j with
 | true => exact hu.2 j e
 | false => rw [e] at hj; exact hv.2 j (by simpa using hj)⟩⟩
theorem bd_zero : ∀ k, bd 0 k = 0
 | 0 => rfl
 | k + 1 => by rw [bd, bd_zero k]; simp
def bdA (u : Nat) : Nat := bd u 64
theorem bdA_xor (u v : Nat) : bdA (u ^^^ v) = bdA u ^^^ bdA v := bd_xor u v 64
theorem ker_lin : Lin fun u => bdA u = 0 := ⟨bd_zero 64, fun u v hu hv => by rw [bdA_xor, hu, hv]; rfl⟩
/-- What some faces have as a boundary. -/
def img (F : Nat -> Bool) (v : Nat) : Prop := ∃ S, supp F S /\ bdA S = v
theorem img_lin (F : Nat -> Bool) : Lin (img F) := ⟨⟨0, (supp_lin F).z, bd_zero 64⟩, fun u v ⟨S, h1, h2⟩ ⟨T, h3, h4⟩ => ⟨S ^^^ T, (supp_lin F).x _ _ h1 h3, by rw [bdA_xor, h2, h4]⟩⟩
theorem pre_list {F : Nat -> Bool} : ∀ {L : List Nat}, (∀ v ∈ L, img F v) -> ∃ M : List Nat, M.length = L.length /\ M.map bdA = L /\ ∀ S ∈ M, supp F S
 | [], _ => ⟨[], rfl, rfl, fun S hS => by cases hS⟩
 | v :: L, h => by
   obtain ⟨S, h1, h2⟩ := h v List.mem_cons_self
   obtain ⟨M, h3, h4, h5⟩ := pre_list (L := L) fun w hw => h w (List.mem_cons_of_mem _ hw)
   refine ⟨S :: M, by simp [h3], by simp [h2, h4], fun T hT => ?_⟩
   rcases List.mem_cons.mp hT with e | e
   · rw [e]; exact h1
   · exact h5 T e
theorem spn_bd {B : List Nat} (hB : ∀ v ∈ B, bdA v = 0) : ∀ {M : List Nat} {u}, spn (M ++ B) u -> spn (M.map bdA) (bdA u)
 | [], u, h => spn_of ker_lin hB h
 | S :: M, u, h => by
   rcases h with h | h
   · exact .inl (spn_bd hB h)
   · refine .inr ?_
     have := spn_bd hB h
     rwa [bdA_xor] at this
theorem ind_app {B : List Nat} (hB : ∀ v ∈ B, bdA v = 0) (hi : Ind B) : ∀ {M : List Nat}, Ind (M.map bdA) -> Ind (M ++ B)
 | [], _ => hi
 | _ :: _, ⟨h1, h2⟩ => ⟨fun h => h1 (spn_bd hB h), ind_app hB hi h2⟩
theorem brdK_mem {l : List Int} {m : Int} {v : Int} : ∀ {k : Nat}, k <= l.length -> v ∈ brdK l m k -> ∃ x ∈ l, (pc x.toNat : Int) = m /\ v = (row x.toNat : Int)
 | 0, _, h => by cases h
 | k + 1, hk, h => by
   rw [brdK] at h
   split at h
   · rename_i hp
     rcases List.mem_append.mp h with h | h
     · exact brdK_mem (by omega) h
     · exact ⟨l.getD k 0, mem_getD (by omega), hp, List.mem_singleton.mp h⟩
   · exact brdK_mem (by omega) h
theorem brd_mem {p : List Int} {m : Int} {v : Int} (h : v ∈ brd p m) : ∃ x : Nat, x < 64 /\ isF p x = true /\ (pc x : Int) = m /\ v = (row x : Int) := by
 obtain ⟨x, h1, h2, h3⟩ := brdK_mem (Nat.le_refl _) h
 obtain ⟨n, rfl, h4, h5⟩ := trueN_mem h1
 exact ⟨n, h4, h5, h2, h3⟩
theorem brd_cN (p : List Int) (m : Nat) : (brd p m).length = cN (fK p m) 64 := by
 unfold brd
 rw [show fcs p = trueN (isF p) 64 from rfl, brdK_length (Nat.le_refl _), List.take_length, filter_trueN (isF p) (fun x => pc x == m) 64]
 refine cN_ext fun x _ => ?_
 unfold fK
 congr 1
theorem rk_sum (p : List Int) (k : Nat) : rk (brd p ((k : Int) + 1)) + rk (brd p ((k : Int) + 2)) <= (brd p ((k : Int) + 1)).length := by
 obtain ⟨L, a1, a2, a3, _⟩ := rk_vec (brd_ok p ((k : Int) + 1)) (img_lin (fK p (k + 1))) fun v hv => by
   obtain ⟨x, h1, h2, h3, rfl⟩ := brd_mem hv
   refine ⟨2 ^ x, ⟨Nat.pow_lt_pow_right (by decide) h1, fun j hj => ?_⟩, ?_⟩
   · rw [Nat.testBit_two_pow] at hj
     have e : x = j := by simpa using hj
     subst e
     unfold fK; rw [h2]; simp; omega
   · unfold bdA; rw [bd_one h1, if_pos h1]; try rfl
 obtain ⟨B, b1, b2, b3, _⟩ := rk_vec (brd_ok p ((k : Int) + 2)) (Q := fun u => supp (fK p (k + 1)) u /\ bdA u = 0) ⟨⟨(supp_lin _).z, ker_lin.z⟩, fun u v hu hv => ⟨(supp_lin _).x _ _ hu.1 hv.1, ker_lin.x _ _ hu.2 hv.2⟩⟩ fun v hv => by
   obtain ⟨x, h1, h2, h3, rfl⟩ := brd_mem hv
   have hr : row x < 2 ^ 63 := rowK_lt h1 6 (by omega)
   rw [Int.toNat_natCast]
   refine ⟨⟨by omega, fun j hj => ?_⟩, bd_bd ⟨x, h1⟩⟩
   have hj64 : j < 64 := by
     rcases Nat.lt_or_ge j 64 with h | h
     · exact h
     · rw [Nat.testBit_lt_two_pow (Nat.lt_of_lt_of_le hr (Nat.pow_le_pow_right (by decide) (by omega)))] at hj; cases hj
   obtain ⟨h4, h5⟩ := row_sub ⟨x, h1⟩ ⟨j, hj64⟩ hj
   simp only at h4 h5
   unfold fK; rw [isF_sub h4 h2]; simp; omega
 obtain ⟨M, c1, c2, c3⟩ := pre_list a3
 have hI := ind_app (fun v hv => (b3 v hv).2) b2 (M := M) (by rw [c2]; exact a2)
 have hd := ind_dim (fK p (k + 1)) (m := 64) hI fun v hv => by
   rcases List.mem_append.mp hv with h | h
   · exact c3 v h
   · exact (b3 v h).1
 rw [List.length_append] at hd
 have hc := brd_cN p (k + 1)
 rw [show ((k + 1 : Nat) : Int) = (k : Int) + 1 by omega] at hc
 omega
theorem hoK_nn {p : List Int} : ∀ {k : Nat}, (k : Int) <= mxL p -> ∀ x ∈ hoK p k, 0 <= x
 | 0, _, x, hx => by simp [hoK] at hx
 | k + 1, hk, x, hx => by
   rw [hoK_step (by omega)] at hx
   rcases List.mem_append.mp hx with h | h
   · exact hoK_nn (by omega) x h
   · have := rk_sum p k
     rw [List.mem_singleton.mp h]; omega
theorem hoL_nn (p : List Int) : ∀ x ∈ hoL p, 0 <= x := hoK_nn (by have := mxL_le p; omega)
theorem pos_ze (p : List Int) : (!posL (hoL p)) = zeL p := by
 cases h : posL (hoL p) with
 | true =>
   obtain ⟨x, h1, h2⟩ := List.any_eq_true.mp h
   have h2 : 0 < x := of_decide_eq_true h2
   exact (decide_eq_false fun h3 => by have := h3 x h1; omega).symm
 | false =>
   refine (decide_eq_true fun x hx => ?_).symm
   have h1 := hoL_nn p x hx
   have h2 : posQ x = false := by
     cases e : posQ x with
     | false => rfl
     | true => rw [show posL (hoL p) = true from List.any_eq_true.mpr ⟨x, hx, e⟩] at h; cases h
   have h2 : ¬ 0 < x := of_decide_eq_false h2
   omega
end Go.Am.Sh

/- Shells, plain: the reference's collapses are the program's. -/
namespace Go.Am.Sh
open Go Go.Am Go.Proofs
theorem szI_pc : ∀ x : Fin 64, szI (x.val : Int) = pc x.val := by decide +kernel
theorem szI_eq {x : Int} (h : 0 <= x /\ x < 64) : szI x = pc x.toNat := by
 have := szI_pc ⟨x.toNat, by omega⟩
 simp only at this
 rwa [Int.toNat_of_nonneg h.1] at this
theorem ptI_eq {x y : Int} (hx : 0 <= x /\ x < 64) (hy : 0 <= y /\ y < 64) : ptI x y = sub x.toNat y.toNat := by
 obtain ⟨a, rfl⟩ : ∃ n : Nat, x = n := ⟨x.toNat, by omega⟩
 obtain ⟨b, rfl⟩ : ∃ n : Nat, y = n := ⟨y.toNat, by omega⟩
 unfold ptI
 rw [bNot_nat (by omega) (by omega)]
 have := sub_mns ⟨a, by omega⟩ ⟨b, by omega⟩
 simp only [Int.toNat_natCast] at this |-
 refine ddd' ?_
 rw [<- this]; omega
theorem cN_at (g : Nat -> Bool) (a : Int) : ∀ m : Nat, cN (fun x => g x && decide (a = (x : Int))) m = if 0 <= a /\ a < m /\ g a.toNat = true then 1 else 0
 | 0 => by rw [cN, if_neg (by omega)]
 | m + 1 => by
   rw [cN, cN_at g a m]
   by_cases e : a = (m : Int)
   · subst e
     rw [if_neg (by omega), Int.toNat_natCast]
     cases h : g m with
     | true => rw [if_pos (by simp), if_pos ⟨by omega, by omega, rfl⟩]
     | false => rw [if_neg (by simp), if_neg (fun hh => by cases hh.2.2)]
   · rw [if_neg (show ¬ (g m && decide (a = (m : Int))) = true by simp [e]), Nat.add_zero]
     by_cases h : 0 <= a /\ a < m /\ g a.toNat = true
     · rw [if_pos h, if_pos ⟨h.1, by omega, h.2.2⟩]
     · rw [if_neg h, if_neg fun hh => h ⟨hh.1, by omega, hh.2.2⟩]
theorem filt_trueN (g : Nat -> Bool) (q : Int -> Bool) : ∀ k, (trueN g k).filter q = trueN (fun x => g x && q (x : Int)) k
 | 0 => rfl
 | k + 1 => by
   rw [trueN, trueN]
   cases hg : g k with
   | false => simpa using filt_trueN g q k
   | true =>
     rw [if_pos rfl, List.filter_append, filt_trueN g q k]
     cases hq : q (k : Int) with
     | true => rw [List.filter_cons_of_pos hq]; simp
     | false => rw [List.filter_cons_of_neg (by rw [hq]; decide)]; simp
theorem mt_two {g : Nat -> Bool} {f e : Int} (hne : f ≠ e) : mtK (trueN g 64) f e (trueN g 64).length = 2 ↔ (0 <= f /\ f < 64 /\ g f.toNat = true) /\ (0 <= e /\ e < 64 /\ g e.toNat = true) := by
 unfold mtK
 rw [List.take_length, filt_trueN, trueN_cN, cN_add (g := fun x => g x && decide (f = (x : Int))) (h := fun x => g x && decide (e = (x : Int))) fun x _ => ?_, cN_at, cN_at]
 · by_cases h1 : 0 <= f /\ f < (64 : Nat) /\ g f.toNat = true <;> by_cases h2 : 0 <= e /\ e < (64 : Nat) /\ g e.toNat = true
   · rw [if_pos h1, if_pos h2]; exact ⟨fun _ => ⟨h1, h2⟩, fun _ => rfl⟩
   · rw [if_pos h1, if_neg h2]; exact ⟨(fun h => by cases h), fun h => absurd h.2 h2⟩
   · rw [if_neg h1, if_pos h2]; exact ⟨(fun h => by cases h), fun h => absurd h.1 h1⟩
   · rw [if_neg h1, if_neg h2]; exact ⟨(fun h => by cases h), fun h => absurd h.1 h1⟩
 · unfold ndC
   constructor
   · rw [<- Bool.and_or_distrib_left, Bool.eq_iff_iff]
     simp only [Bool.and_eq_true, Bool.or_eq_true, decide_eq_true_eq]
     exact and_congr_right fun _ => ⟨fun h => h.imp Eq.symm Eq.symm, fun h => h.imp Eq.symm Eq.symm⟩
   · cases h : g x <;> simp
     intro h1; omega
theorem cl_can (g : Nat -> Bool) (f e : Int) : clB (trueN g 64) f e = canR g f e := by
 refine decide_eq_decide.mpr ?_
 constructor
 · rintro ⟨⟨⟨h1, h2, h3⟩, h4⟩, h5⟩
   have hne : f ≠ e := fun h => by rw [h] at h3; omega
   obtain ⟨⟨f1, f2, f3⟩, e1, e2, e3⟩ := (mt_two hne).mp h5
   rw [szI_eq ⟨e1, e2⟩, szI_eq ⟨f1, f2⟩] at h3
   rw [ptI_eq ⟨f1, f2⟩ ⟨e1, e2⟩] at h2
   refine ⟨⟨by omega, f2⟩, ⟨?_, e2⟩, f3, e3, h2, h3, fun x hx hg hs => ?_⟩
   · rcases Int.lt_or_eq_of_le e1 with h | h
     · omega
     · rw [<- h] at h3
       have : pc (0 : Int).toNat = 0 := rfl
       omega
   · have h6 := h4 (x : Int) (by rw [List.take_length]; exact trueN_has hx hg)
     rw [ptI_eq ⟨f1, f2⟩ ⟨by omega, by omega⟩, Int.toNat_natCast] at h6
     by_cases hnd : ndC f e (x : Int) = true
     · rcases of_decide_eq_true hnd with h7 | h7
       · exact .inl (by omega)
       · exact .inr (by omega)
     · rw [h6 (by simpa using hnd)] at hs; cases hs
 · rintro ⟨⟨a1, a2⟩, ⟨b1, b2⟩, h3, h4, h5, h6, h7⟩
   have hne : f ≠ e := fun h => by rw [h] at h6; omega
   refine ⟨⟨⟨by omega, ?_, ?_⟩, fun x hx hn => ?_⟩, (mt_two hne).mpr ⟨⟨by omega, a2, h3⟩, by omega, b2, h4⟩⟩
   · rw [ptI_eq ⟨by omega, a2⟩ ⟨by omega, b2⟩]; exact h5
   · rw [szI_eq ⟨by omega, b2⟩, szI_eq ⟨by omega, a2⟩]; exact h6
   · rw [List.take_length] at hx
     obtain ⟨y, rfl, y1, y2⟩ := trueN_mem hx
     rw [ptI_eq ⟨by omega, a2⟩ ⟨by omega, by omega⟩, Int.toNat_natCast]
     cases hs : sub f.toNat y with
     | false => rfl
     | true =>
       have hn : ¬ ((y : Int) = f ∨ (y : Int) = e) := of_decide_eq_false hn
       rcases h7 y y1 y2 hs with h | h
       · exact absurd (.inl (by omega)) hn
       · exact absurd (.inr (by omega)) hn
theorem cl_left {xs : Fs} (hl : xs.length = 64) {f e : Int} (h : canR (gB xs) f e = true) : clR (trueN (gB xs) 64) f e = trueN (gB (tkI xs (f, e))) 64 := by
 have hb : clB (trueN (gB xs) 64) f e = true := by rw [cl_can]; exact h
 have hc : clOk (trueN (gB xs) 64) f e /\ _ := of_decide_eq_true hb
 obtain ⟨⟨a1, a2⟩, ⟨b1, b2⟩, _⟩ : canP (gB xs) f e := of_decide_eq_true h
 unfold clR
 rw [if_pos hc.1]
 unfold kpK
 rw [List.take_length, filt_trueN]
 refine trueN_ext fun x hx => ?_
 unfold tkI
 rw [gB_set (by rw [List.length_set]; simp only; omega), gB_set (by simp only; omega)]
 simp only [ndC]
 by_cases h1 : x = e.toNat
 · rw [if_pos h1, decide_eq_true (.inr (by omega))]; simp
 · rw [if_neg h1]
   by_cases h2 : x = f.toNat
   · rw [if_pos h2, decide_eq_true (.inl (by omega))]; simp
   · rw [if_neg h2, decide_eq_false (by omega)]; simp
theorem left_eq {xs : Fs} (hl : xs.length = 64) (c : LP) : ∀ k, (∀ i, i < k -> lfC xs c i = true) -> rlA (trueN (gB xs) 64) c k = trueN (gB (lfA xs c k)) 64
 | 0, _ => rfl
 | k + 1, h => by
   rw [rlA, left_eq hl c k fun i hi => h i (by omega), cl_left (by rw [lfA_len]; exact hl) (h k (by omega)), lfA]
theorem leftC_eq {xs : Fs} (hl : xs.length = 64) (c : LP) (k : Nat) (h : ∀ i, i < k -> lfC xs c i = true) : rlC (trueN (gB xs) 64) c k = lfC xs c k := by
 unfold rlC
 rw [left_eq hl c k h, cl_can]; try rfl
theorem leftB_eq {xs : Fs} (hl : xs.length = 64) (c : LP) : rlB (trueN (gB xs) 64) c = lfB xs c := by
 refine decide_eq_decide.mpr ⟨fun h => ?_, fun h i hi => ?_⟩
 · have key : ∀ k, k <= c.length -> ∀ i, i < k -> lfC xs c i = true := by
     intro k
     induction k with
     | zero => intro _ i hi; omega
     | succ k ih =>
       intro hk i hi
       rcases Nat.lt_or_ge i k with h1 | h1
       · exact ih (by omega) i h1
       · have e : i = k := by omega
         subst e
         rw [<- leftC_eq hl c i (ih (by omega))]; exact h i (by omega)
   exact key c.length (Nat.le_refl _)
 · rw [leftC_eq hl c i fun j hj => h j (by omega)]; exact h i hi
theorem leftR_eq {xs : Fs} (hl : xs.length = 64) (c : LP) : rlR (trueN (gB xs) 64) c = lfR xs c := by
 unfold rlR lfR
 rw [leftB_eq hl]
 by_cases h : lfB xs c = true
 · rw [if_pos h, if_pos h]
   exact left_eq hl c c.length (of_decide_eq_true h)
 · rw [if_neg h, if_neg h]
end Go.Am.Sh

/- Shells, plain: the program's search and the reference's find the same. -/
namespace Go.Am.Sh
open Go Go.Am Go.Proofs
theorem mGet_put {k : Ty} {V : Type} : ∀ (m : List (k.D × V)) (x y : k.D) (v : V), (y = x -> mGet k (mPut k m x v) y = some v) /\ (y ≠ x -> mGet k (mPut k m x v) y = mGet k m y)
 | [], x, y, v => by
   unfold mPut mGet
   cases h : k.deq y x with
   | isTrue h2 => exact ⟨fun _ => rfl, fun h3 => absurd h2 h3⟩
   | isFalse h2 => exact ⟨fun h3 => absurd h3 h2, fun _ => rfl⟩
 | e :: l, x, y, v => by
   obtain ⟨i1, i2⟩ := mGet_put l x y v
   unfold mPut
   cases h : k.deq x e.1 with
   | isTrue h1 =>
     unfold mGet
     simp only
     cases h' : k.deq y x with
     | isTrue h2 => exact ⟨fun _ => rfl, fun h3 => absurd h2 h3⟩
     | isFalse h2 =>
       refine ⟨fun h3 => absurd h3 h2, fun _ => ?_⟩
       cases h'' : k.deq y e.1 with
       | isTrue h4 => exact absurd (h4.trans h1.symm) h2
       | isFalse h4 => rfl
   | isFalse h1 =>
     simp only
     unfold mGet
     cases h' : k.deq y e.1 with
     | isTrue h2 => exact ⟨fun h3 => absurd (h3.symm.trans h2) h1, fun _ => rfl⟩
     | isFalse h2 => exact ⟨i1, i2⟩
/-- What collapses to two faces. -/
inductive Co : Fs -> Prop
 | stop {xs : Fs} : (trueN (gB xs) 64).length = 2 -> Co xs
 | step {xs : Fs} (a b : Nat) : canR (gB xs) a b = true -> Co (tk xs a b) -> Co xs
/-- Collapses by which two faces are left. -/
def Val : Fs -> LP -> Prop
 | xs, [] => (trueN (gB xs) 64).length = 2
 | xs, q :: c => canR (gB xs) q.1 q.2 = true /\ Val (tkI xs q) c
theorem Val_co : ∀ {c : LP} {xs : Fs}, Val xs c -> Co xs
 | [], _, h => .stop h
 | q :: c, xs, h => by
   obtain ⟨h1, h2⟩ := h
   have hP : canP (gB xs) q.1 q.2 := of_decide_eq_true h1
   have e1 : ((q.1.toNat : Nat) : Int) = q.1 := Int.toNat_of_nonneg (by have := hP.1; omega)
   have e2 : ((q.2.toNat : Nat) : Int) = q.2 := Int.toNat_of_nonneg (by have := hP.2.1; omega)
   exact .step q.1.toNat q.2.toNat (by rw [e1, e2]; exact h1) (Val_co h2)
def sndF (m : MF) : Prop := ∀ xs : Fs, mgF m xs = true -> ¬ Co xs
theorem mgF_put (m : MF) (xs ys : Fs) : mgF (mpF m xs) ys = if ys = xs then true else mgF m ys := by
 unfold mgF mpF
 obtain ⟨h1, h2⟩ := mGet_put (k := FA) m xs ys true
 by_cases h : ys = xs
 · rw [if_pos h]
   exact congrArg (fun o => Option.getD o false) (h1 h)
 · rw [if_neg h]
   exact congrArg (fun o => Option.getD o false) (h2 h)
theorem sndF_put {m : MF} (h : sndF m) {xs : Fs} (hx : ¬ Co xs) : sndF (mpF m xs) := fun ys hy => by
 rw [mgF_put] at hy
 split at hy
 · rename_i e; rw [e]; exact hx
 · exact h ys hy
def goodC (xs : Fs) (l : LP) (r : RC) : Prop := (r.1 = true -> ∃ c, r.2.2.1 = l ++ c /\ Val xs c) /\ (r.1 = false -> ¬ Co xs /\ sndF r.2.2.2)
theorem lp_good {xs : Fs} (hl : xs.length = 64) {F : Fs -> LP -> MF -> RC} {l : LP} {m : MF} (hm : sndF m) (hF : ∀ i m, cnd xs i = true -> sndF m -> goodC (tk xs (pA i) (pB i)) (l ++ [prI (pA i) (pB i)]) (F (tk xs (pA i) (pB i)) (l ++ [prI (pA i) (pB i)]) m)) :
   ∀ k, ((lpC xs F l m k).1 = true -> ∃ c, (lpC xs F l m k).2.2.1 = l ++ c /\ Val xs c) /\ ((lpC xs F l m k).1 = false -> sndF (lpC xs F l m k).2.2.2 /\ ∀ i, i < k -> cnd xs i = true -> ¬ Co (tk xs (pA i) (pB i)))
 | 0 => ⟨(fun h => by cases h), fun _ => ⟨hm, fun i hi => absurd hi (Nat.not_lt_zero _)⟩⟩
 | k + 1 => by
   obtain ⟨h1, h2⟩ := lp_good hl hm hF k
   rw [lpC]
   by_cases hc : (lpC xs F l m k).1 = true ∨ cnd xs k = false
   · rw [if_pos hc]
     refine ⟨h1, fun h => ⟨(h2 h).1, fun i hi hci => ?_⟩⟩
     rcases Nat.lt_or_ge i k with h3 | h3
     · exact (h2 h).2 i h3 hci
     · rw [show i = k by omega] at hci
       rcases hc with hc | hc
       · rw [h] at hc; cases hc
       · rw [hci] at hc; cases hc
   · rw [if_neg hc]
     have hc1 : (lpC xs F l m k).1 = false := by
       cases e : (lpC xs F l m k).1 with
       | false => rfl
       | true => exact absurd (.inl e) hc
     have hc2 : cnd xs k = true := by
       cases e : cnd xs k with
       | true => rfl
       | false => exact absurd (.inr e) hc
     obtain ⟨g1, g2⟩ := hF k _ hc2 (h2 hc1).1
     have hcan : canR (gB xs) (pA k) (pB k) = true := by
       unfold cnd at hc2
       rw [Bool.and_eq_true, Bool.and_eq_true] at hc2
       exact hc2.2
     split
     · rename_i hf
       refine ⟨fun _ => ?_, (fun h => by rw [hf] at h; cases h)⟩
       obtain ⟨c, e1, e2⟩ := g1 hf
       refine ⟨prI (pA k) (pB k) :: c, by rw [e1, List.append_assoc]; rfl, hcan, e2⟩
     · rename_i hf
       have hf := Bool.eq_false_iff.mpr hf
       refine ⟨(fun h => by cases h), fun _ => ⟨(g2 hf).2, fun i hi hci => ?_⟩⟩
       rcases Nat.lt_or_ge i k with h3 | h3
       · exact (h2 hc1).2 i h3 hci
       · rw [show i = k by omega]; exact (g2 hf).1
theorem cand : ∀ a b : Fin 64, sub a.val b.val = true -> pc b.val = pc a.val + 1 -> ∃ j : Fin 6, b.val = a.val ||| 2 ^ j.val := by decide +kernel
theorem cand_all {xs : Fs} {a b : Nat} (h : canR (gB xs) a b = true) : ∃ i, i < nC /\ pA i = a /\ pB i = b /\ cnd xs i = true := by
 have hP : canP (gB xs) a b := of_decide_eq_true h
 obtain ⟨h1, h2, h3, h4, h5, h6, _⟩ := hP
 rw [Int.toNat_natCast] at h3 h5 h6
 rw [Int.toNat_natCast] at h4 h5 h6
 obtain ⟨j, hj⟩ := cand ⟨a, by omega⟩ ⟨b, by omega⟩ h5 h6
 simp only at hj
 have e1 : (a * 6 + j.val) / 6 = a := by have := j.isLt; omega
 have e2 : (a * 6 + j.val) % 6 = j.val := by have := j.isLt; omega
 have ea : pA (a * 6 + j.val) = a := e1
 have eb : pB (a * 6 + j.val) = b := by unfold pB; rw [e1, e2]; exact hj.symm
 refine ⟨a * 6 + j.val, by have := j.isLt; unfold nC; omega, ea, eb, ?_⟩
 unfold cnd
 rw [ea, eb, h3, h, decide_eq_false (fun e => by rw [e] at h6; omega)]
 rfl
theorem fl_good : ∀ (n : Nat) (xs : Fs) (l : LP) (m : MF), xs.length = 64 -> cN (gB xs) 64 < 2 * n -> sndF m -> goodC xs l (fl n xs l m)
 | 0, _, _, _, _, h, _ => absurd h (by omega)
 | n + 1, xs, l, m, hl, hc, hm => by
   obtain ⟨K, rfl, hu⟩ := fl_unf n xs l m
   rw [hu]
   have hg := lp_good (F := fl n) (l := l) hl hm (fun i m' hci hm' => by
     have hcan : canR (gB xs) (pA i) (pB i) = true := by
       unfold cnd at hci
       rw [Bool.and_eq_true, Bool.and_eq_true] at hci
       exact hci.2
     obtain ⟨t1, _, t3⟩ := tk_cN hl hcan
     exact fl_good n _ _ m' t3 (by omega) hm') nC
   generalize lpC xs (fl n) l m nC = r at hg
   by_cases h2 : (trueN (gB xs) 64).length = 2
   · rw [if_pos h2]
     exact ⟨fun _ => ⟨[], by simp, h2⟩, (fun h => by cases h)⟩
   · rw [if_neg h2]
     by_cases h3 : mgF m xs = true
     · rw [if_pos h3]
       exact ⟨(fun h => by cases h), fun _ => ⟨hm xs h3, hm⟩⟩
     · rw [if_neg h3]
       by_cases h4 : r.1 = true
       · rw [if_pos h4]
         exact ⟨hg.1, (fun h => by rw [h4] at h; cases h)⟩
       · rw [if_neg h4]
         have h4 : r.1 = false := by simpa using h4
         obtain ⟨g1, g2⟩ := hg.2 h4
         have hno : ¬ Co xs := fun hco => by
           cases hco with
           | stop h => exact h2 h
           | step a b hab hco =>
             obtain ⟨i, i1, i2, i3, i4⟩ := cand_all hab
             have := g2 i i1 i4
             rw [i2, i3] at this
             exact this hco
         exact ⟨(fun h => by cases h), fun _ => ⟨hno, sndF_put g1 hno⟩⟩
structure Cl (xs : Fs) : Prop where
 hl : xs.length = 64
 z : gB xs 0 = true
 d : ∀ a b, b < 64 -> sub a b = true -> gB xs b = true -> gB xs a = true
theorem tk_gB {xs : Fs} (hl : xs.length = 64) {a b : Nat} (ha : a < 64) (hb : b < 64) (x : Nat) : gB (tk xs a b) x = (gB xs x && !decide (x = a) && !decide (x = b)) := by
 unfold tk
 rw [gB_set (by rw [List.length_set]; omega), gB_set (by omega)]
 by_cases h1 : x = b
 · rw [if_pos h1, decide_eq_true h1]; simp
 · rw [if_neg h1, decide_eq_false h1]
   by_cases h2 : x = a
   · rw [if_pos h2, decide_eq_true h2]; simp
   · rw [if_neg h2, decide_eq_false h2]; simp
theorem Cl_tk {xs : Fs} (h : Cl xs) {a b : Nat} (hc : canR (gB xs) a b = true) : Cl (tk xs a b) := by
 obtain ⟨h1, h2, h3, h4, h5, h6, h7⟩ : canP (gB xs) a b := of_decide_eq_true hc
 simp only [Int.toNat_natCast] at h3 h4 h5 h6 h7
 refine ⟨by simp [tk, h.hl], ?_, fun x y hy hs hg => ?_⟩
 · rw [tk_gB h.hl (by omega) (by omega), h.z, decide_eq_false (by omega), decide_eq_false (by omega)]; try rfl
 · rw [tk_gB h.hl (by omega) (by omega)] at hg |-
   simp only [Bool.and_eq_true, Bool.not_eq_true', decide_eq_false_iff_not] at hg |-
   obtain ⟨⟨g1, g2⟩, g3⟩ := hg
   refine ⟨⟨h.d x y hy hs g1, fun e => ?_⟩, fun e => ?_⟩
   · subst e
     rcases h7 y hy g1 hs with e | e
     · exact g2 e
     · exact g3 e
   · subst e
     rcases h7 y hy g1 (sub_trans h5 hs) with e | e
     · exact g2 e
     · exact g3 e
theorem pc_two : ∀ x : Fin 64, x.val ≠ 0 -> pc x.val ≠ 1 -> ∃ y : Fin 64, y.val ≠ 0 /\ y.val ≠ x.val /\ sub y.val x.val = true := by decide +kernel
theorem one_iff {xs : Fs} (h : Cl xs) : oneB (trueN (gB xs) 64) = decide ((trueN (gB xs) 64).length = 2) := by
 refine decide_eq_decide.mpr ⟨fun h1 => h1.1, fun h1 => ⟨h1, ?_⟩⟩
 have hz := trueN_has (k := 64) (by decide) h.z
 obtain ⟨i, hi, ei⟩ := List.getElem_of_mem hz
 have key : ∀ j, j < (trueN (gB xs) 64).length -> ∃ n : Nat, (trueN (gB xs) 64).getD j 0 = n /\ n < 64 /\ gB xs n = true := fun j hj => by
   obtain ⟨n, a, b, c⟩ := trueN_mem (mem_getD (d := 0) hj)
   exact ⟨n, a, b, c⟩
 have ei' : (trueN (gB xs) 64).getD i 0 = 0 := by rw [getD_lt hi]; exact ei
 obtain ⟨n0, a0, b0, c0⟩ := key 0 (by omega)
 obtain ⟨n1, a1, b1, c1⟩ := key 1 (by omega)
 have hasc := trueN_asc (g := gB xs) (k := 64) (i := 0) (j := 1) (by omega) (by omega)
 have hi0 : i = 0 := by
   rcases Nat.eq_zero_or_pos i with e | e
   · exact e
   · have : i = 1 := by omega
     subst this; omega
 subst hi0
 refine ⟨ei', ?_⟩
 rw [a1, Int.toNat_natCast]
 refine Classical.byContradiction fun hp => ?_
 obtain ⟨y, y1, y2, y3⟩ := pc_two ⟨n1, b1⟩ (by simp only; omega) hp
 have hy := trueN_has y.isLt (h.d _ _ b1 y3 c1)
 obtain ⟨j, hj, ej⟩ := List.getElem_of_mem hy
 have ej' : (trueN (gB xs) 64).getD j 0 = (y.val : Int) := by rw [getD_lt hj]; exact ej
 simp only at y2
 rcases Nat.eq_zero_or_pos j with e | e
 · subst e; omega
 · have : j = 1 := by omega
   subst this; omega
end Go.Am.Sh

/- Shells, plain: the reference's search. -/
namespace Go.Am.Sh
open Go Go.Am Go.Proofs
def knK (l : List Int) : Nat -> Nat
 | 0 => 0
 | k + 1 => knK l k ||| 2 ^ (l.getD k 0).toNat
theorem knK_lt {l : List Int} (h : okL l) : ∀ k, knK l k < 2 ^ 64
 | 0 => by rw [knK]; decide
 | k + 1 => by
   have := okL_get h k
   rw [knK]
   exact Nat.or_lt_two_pow (knK_lt h k) (Nat.pow_lt_pow_right (by decide) (by omega))
theorem ofInt_wrap (n : Nat) (h : n < 2 ^ 64) : BitVec.ofInt 64 (IntKind.wrap .i64 (n : Int)) = BitVec.ofNat 64 n := by
 apply BitVec.eq_of_toNat_eq
 rw [BitVec.toNat_ofInt, BitVec.toNat_ofNat]
 simp [IntKind.wrap, IntKind.bits, IntKind.signed]
 omega
theorem kyK_kn {l : List Int} (h : okL l) : ∀ k, kyK l k = IntKind.wrap .i64 (knK l k : Int)
 | 0 => rfl
 | k + 1 => by
   have h1 := okL_get h k
   have h2 := knK_lt h k
   have h3 : 2 ^ (l.getD k 0).toNat < 2 ^ 64 := Nat.pow_lt_pow_right (by decide) (by omega)
   have e : modU .i64 (1 * 2 ^ (l.getD k 0).toNat) = IntKind.wrap .i64 ((2 ^ (l.getD k 0).toNat : Nat) : Int) := by
     rw [Int.one_mul, Int.natCast_pow]; try rfl
   rw [kyK, knK, kyK_kn h k, e]
   unfold bOr
   show IntKind.wrap .i64 (((BitVec.ofInt 64 _) ||| (BitVec.ofInt 64 _)).toNat : Int) = _
   rw [ofInt_wrap _ h2, ofInt_wrap _ h3, BitVec.toNat_or, BitVec.toNat_ofNat, BitVec.toNat_ofNat, Nat.mod_eq_of_lt h2, Nat.mod_eq_of_lt h3]
theorem knK_bit (l : List Int) (j : Nat) : ∀ k, (knK l k).testBit j = true ↔ ∃ i, i < k /\ (l.getD i 0).toNat = j
 | 0 => by simp [knK]
 | k + 1 => by
   rw [knK, Nat.testBit_or, Bool.or_eq_true, knK_bit l j k, Nat.testBit_two_pow, decide_eq_true_eq]
   constructor
   · rintro (⟨i, h1, h2⟩ | h)
     · exact ⟨i, by omega, h2⟩
     · exact ⟨k, by omega, h⟩
   · rintro ⟨i, h1, h2⟩
     by_cases e : i = k
     · subst e; exact .inr h2
     · exact .inl ⟨i, by omega, h2⟩
theorem ky_inj {xs ys : Fs} (hx : xs.length = 64) (hy : ys.length = 64) (h : kyI (trueN (gB xs) 64) = kyI (trueN (gB ys) 64)) : xs = ys := by
 unfold kyI at h
 rw [kyK_kn (trueN_ok _), kyK_kn (trueN_ok _)] at h
 have h1 := knK_lt (trueN_ok (gB xs)) (trueN (gB xs) 64).length
 have h2 := knK_lt (trueN_ok (gB ys)) (trueN (gB ys) 64).length
 have h3 : knK (trueN (gB xs) 64) (trueN (gB xs) 64).length = knK (trueN (gB ys) 64) (trueN (gB ys) 64).length := by
   have e := congrArg (BitVec.ofInt 64) h
   rw [ofInt_wrap _ h1, ofInt_wrap _ h2] at e
   have e := congrArg BitVec.toNat e
   rwa [BitVec.toNat_ofNat, BitVec.toNat_ofNat, Nat.mod_eq_of_lt h1, Nat.mod_eq_of_lt h2] at e
 have key : ∀ (zs : Fs) (x : Nat), x < 64 -> ((knK (trueN (gB zs) 64) (trueN (gB zs) 64).length).testBit x = true ↔ gB zs x = true) := fun zs x hx => by
   rw [knK_bit]
   constructor
   · rintro ⟨i, h1, h2⟩
     obtain ⟨n, e1, _, e3⟩ := trueN_mem (mem_getD (d := 0) h1)
     rw [e1, Int.toNat_natCast] at h2
     rw [<- h2]; exact e3
   · intro hg
     obtain ⟨i, h1, h2⟩ := List.getElem_of_mem (trueN_has hx hg)
     exact ⟨i, h1, by rw [getD_lt h1, h2, Int.toNat_natCast]⟩
 apply ext_getD (d := false) (by rw [hx, hy])
 intro x hxl
 have hk := key xs x (by omega)
 rw [h3] at hk
 have := hk.symm.trans (key ys x (by omega))
 show gB xs x = gB ys x
 exact Bool.eq_iff_iff.mpr this
def sndI (m : MJ) : Prop := ∀ xs : Fs, xs.length = 64 -> giI m (kyI (trueN (gB xs) 64)) = true -> ¬ Co xs
theorem sndI_put {m : MJ} (h : sndI m) {xs : Fs} (hl : xs.length = 64) (hx : ¬ Co xs) : sndI (piI m (kyI (trueN (gB xs) 64))) := fun ys hy hg => by
 unfold giI piI at hg
 obtain ⟨h1, h2⟩ := mGet_put (k := I64) m (kyI (trueN (gB xs) 64)) (kyI (trueN (gB ys) 64)) true
 by_cases e : kyI (trueN (gB ys) 64) = kyI (trueN (gB xs) 64)
 · rw [ky_inj hy hl e]; exact hx
 · exact h ys hy ((congrArg (fun o => Option.getD o false) (h2 e)).symm.trans hg)
def goodI (xs : Fs) (r : RM) : Prop := (r.1 = true -> Co xs) /\ (r.1 = false -> ¬ Co xs /\ sndI r.2)
def at2 (l : List Int) (q : Nat) : Int × Int := (l.getD (q / l.length) 0, l.getD (q % l.length) 0)
theorem tkI_tk (xs : Fs) (a b : Nat) : tkI xs ((a : Int), (b : Int)) = tk xs a b := rfl
theorem at2_nat {xs : Fs} {q : Nat} (hq : q < (trueN (gB xs) 64).length * (trueN (gB xs) 64).length) : ∃ a b : Nat, at2 (trueN (gB xs) 64) q = ((a : Int), (b : Int)) := by
 generalize hn : trueN (gB xs) 64 = l at hq
 have hl : 0 < l.length := by
   rcases Nat.eq_zero_or_pos l.length with e | e
   · rw [e] at hq; omega
   · exact e
 have h1 : q / l.length < l.length := Nat.div_lt_of_lt_mul hq
 have h2 : q % l.length < l.length := Nat.mod_lt _ hl
 have h3 := okL_get (p := l) (by rw [<- hn]; exact trueN_ok _)
 refine ⟨(l.getD (q / l.length) 0).toNat, (l.getD (q % l.length) 0).toNat, ?_⟩
 unfold at2
 rw [Int.toNat_of_nonneg (h3 _).1, Int.toNat_of_nonneg (h3 _).1]
theorem rl_good {xs : Fs} (hl : xs.length = 64) {F : List Int -> MJ -> RM} {m : MJ} (hm : sndI m) (hF : ∀ (a b : Nat) m, canR (gB xs) a b = true -> sndI m -> goodI (tk xs a b) (F (trueN (gB (tk xs a b)) 64) m)) :
   ∀ q, q <= (trueN (gB xs) 64).length * (trueN (gB xs) 64).length -> ((rlK (trueN (gB xs) 64) F m q).1 = true -> Co xs) /\ ((rlK (trueN (gB xs) 64) F m q).1 = false -> sndI (rlK (trueN (gB xs) 64) F m q).2 /\ ∀ i, i < q -> ∀ a b : Nat, at2 (trueN (gB xs) 64) i = ((a : Int), (b : Int)) -> canR (gB xs) a b = true -> ¬ Co (tk xs a b))
 | 0, _ => ⟨(fun h => by cases h), fun _ => ⟨hm, fun i hi => absurd hi (Nat.not_lt_zero _)⟩⟩
 | q + 1, hq => by
   obtain ⟨h1, h2⟩ := rl_good hl hm hF q (by omega)
   obtain ⟨a, b, hab⟩ := at2_nat (xs := xs) (q := q) (by omega)
   have ha : (trueN (gB xs) 64).getD (q / (trueN (gB xs) 64).length) 0 = a := congrArg Prod.fst hab
   have hb : (trueN (gB xs) 64).getD (q % (trueN (gB xs) 64).length) 0 = b := congrArg Prod.snd hab
   rw [rlK, ha, hb]
   generalize rlK (trueN (gB xs) 64) F m q = r at h1 h2 |-
   by_cases hr : r.1 = true
   · rw [if_pos hr]
     exact ⟨h1, (fun h => by rw [hr] at h; cases h)⟩
   · rw [if_neg hr]
     have hr := Bool.eq_false_iff.mpr hr
     obtain ⟨g1, g2⟩ := h2 hr
     rw [cl_can]
     by_cases hc : canR (gB xs) a b = true
     · rw [if_pos hc, cl_left hl hc, tkI_tk]
       obtain ⟨k1, k2⟩ := hF a b r.2 hc g1
       refine ⟨fun h => .step a b hc (k1 h), fun h => ⟨(k2 h).2, fun i hi c d hcd hcan => ?_⟩⟩
       rcases Nat.lt_or_ge i q with h3 | h3
       · exact g2 i h3 c d hcd hcan
       · have e : i = q := by omega
         subst e
         rw [hab] at hcd
         have e1 : a = c := by have := congrArg Prod.fst hcd; simp only at this; omega
         have e2 : b = d := by have := congrArg Prod.snd hcd; simp only at this; omega
         subst e1 e2
         exact (k2 h).1
     · rw [if_neg hc]
       refine ⟨h1, fun h => ⟨g1, fun i hi c d hcd hcan => ?_⟩⟩
       rcases Nat.lt_or_ge i q with h3 | h3
       · exact g2 i h3 c d hcd hcan
       · have e : i = q := by omega
         subst e
         rw [hab] at hcd
         have e1 : a = c := by have := congrArg Prod.fst hcd; simp only at this; omega
         have e2 : b = d := by have := congrArg Prod.snd hcd; simp only at this; omega
         subst e1 e2
         exact absurd hcan hc
theorem at2_all {xs : Fs} {a b : Nat} (h : canR (gB xs) a b = true) : ∃ i, i < (trueN (gB xs) 64).length * (trueN (gB xs) 64).length /\ at2 (trueN (gB xs) 64) i = ((a : Int), (b : Int)) := by
 obtain ⟨h1, h2, h3, h4, _⟩ : canP (gB xs) a b := of_decide_eq_true h
 rw [Int.toNat_natCast] at h3
 rw [Int.toNat_natCast] at h4
 obtain ⟨i, i1, i2⟩ := List.getElem_of_mem (trueN_has (k := 64) (by omega) h3)
 obtain ⟨k, k1, k2⟩ := List.getElem_of_mem (trueN_has (k := 64) (by omega) h4)
 refine ⟨i * (trueN (gB xs) 64).length + k, ?_, ?_⟩
 · have : (i + 1) * (trueN (gB xs) 64).length <= (trueN (gB xs) 64).length * (trueN (gB xs) 64).length := Nat.mul_le_mul_right _ (by omega)
   rw [Nat.succ_mul] at this
   omega
 · unfold at2
   have e1 : (i * (trueN (gB xs) 64).length + k) / (trueN (gB xs) 64).length = i := by rw [Nat.mul_comm, Nat.mul_add_div (by omega), Nat.div_eq_of_lt k1, Nat.add_zero]
   have e2 : (i * (trueN (gB xs) 64).length + k) % (trueN (gB xs) 64).length = k := by rw [Nat.mul_comm, Nat.mul_add_mod, Nat.mod_eq_of_lt k1]
   rw [e1, e2, getD_lt i1, getD_lt k1, i2, k2]
theorem rf_good : ∀ (n : Nat) (xs : Fs) (m : MJ), Cl xs -> cN (gB xs) 64 < 2 * n -> sndI m -> goodI xs (rf n (trueN (gB xs) 64) m)
 | 0, _, _, _, h, _ => absurd h (by omega)
 | n + 1, xs, m, hC, hc, hm => by
   rw [rf, one_iff hC]
   have hg := rl_good (F := rf n) hC.hl hm (fun a b m' hcan hm' => by
     obtain ⟨t1, _, t3⟩ := tk_cN hC.hl hcan
     exact rf_good n _ m' (Cl_tk hC hcan) (by omega) hm') _ (Nat.le_refl _)
   generalize rlK (trueN (gB xs) 64) (rf n) m ((trueN (gB xs) 64).length * (trueN (gB xs) 64).length) = r at hg
   by_cases h2 : (trueN (gB xs) 64).length = 2
   · rw [if_pos (decide_eq_true h2)]
     exact ⟨fun _ => .stop h2, (fun h => by cases h)⟩
   · rw [if_neg (by simpa using h2)]
     by_cases h3 : giI m (kyI (trueN (gB xs) 64)) = true
     · rw [if_pos h3]
       exact ⟨(fun h => by cases h), fun _ => ⟨hm xs hC.hl h3, hm⟩⟩
     · rw [if_neg h3]
       by_cases h4 : r.1 = true
       · rw [if_pos h4]
         exact ⟨hg.1, (fun h => by rw [h4] at h; cases h)⟩
       · rw [if_neg h4]
         obtain ⟨g1, g2⟩ := hg.2 (Bool.eq_false_iff.mpr h4)
         have hno : ¬ Co xs := fun hco => by
           cases hco with
           | stop h => exact h2 h
           | step a b hab hco =>
             obtain ⟨i, i1, i2⟩ := at2_all hab
             exact g2 i i1 a b i2 hab hco
         exact ⟨(fun h => by cases h), fun _ => ⟨hno, sndI_put g1 hC.hl hno⟩⟩
theorem sndF_nil : sndF [] := fun xs h => by simp [mgF, mGet] at h
theorem sndI_nil : sndI [] := fun xs _ h => by simp [giI, mGet] at h
theorem cN33 (xs : Fs) : cN (gB xs) 64 < 2 * 33 := by have := cN_top (gB xs) 64; omega
theorem Cl_mk {p : List Int} (h : isF p 0 = true) : Cl (mk (isF p)) := ⟨mk_length _, by rw [show gB (mk (isF p)) 0 = isF p 0 from mk_getD (by decide)]; exact h, fun a b hb hs hg => by
 have ha : a < 64 := Nat.lt_of_le_of_lt (sub_le hs) hb
 rw [show gB (mk (isF p)) a = isF p a from mk_getD ha]
 rw [show gB (mk (isF p)) b = isF p b from mk_getD hb] at hg
 exact isF_sub hs hg⟩
theorem isF_zero {n : Int} {p : List Int} (h : cxOk n p) : isF p 0 = true := isF_iff.mpr ⟨0, by have := h.2.1.1; omega, sub_zero _⟩
theorem fcs_mk (p : List Int) : fcs p = trueN (gB (mk (isF p))) 64 := (trueN_mk _).symm
theorem col_tc {n : Int} {p : List Int} (h : cxOk n p) : colR p = tcB 33 p := by
 unfold colR colB tcB
 rw [pos_ze, fcs_mk]
 have hC := Cl_mk (isF_zero h)
 obtain ⟨f1, f2⟩ := fl_good 33 (mk (isF p)) [] [] hC.hl (cN33 _) sndF_nil
 obtain ⟨r1, r2⟩ := rf_good 33 (mk (isF p)) [] hC (cN33 _) sndI_nil
 generalize fl 33 (mk (isF p)) [] [] = r at f1 f2
 generalize rf 33 (trueN (gB (mk (isF p))) 64) [] = s at r1 r2
 have : r.1 = s.1 := by
   cases e1 : r.1 with
   | true =>
     obtain ⟨c, _, hv⟩ := f1 e1
     cases e2 : s.1 with
     | true => rfl
     | false => exact absurd (Val_co hv) (r2 e2).1
   | false =>
     cases e2 : s.1 with
     | false => rfl
     | true => exact absurd (r1 e2) (f2 e1).1
 rw [this]
theorem col_no {p : List Int} (h : colR p = false) : colP p = [] := by
 unfold colP colL
 rw [show colB 33 p = false from h]; try rfl
theorem Val_run : ∀ {c : LP} {xs : Fs}, Val xs c -> (∀ i, i < c.length -> lfC xs c i = true) /\ (trueN (gB (lfA xs c c.length)) 64).length = 2
 | [], xs, h => ⟨fun i hi => absurd hi (Nat.not_lt_zero _), h⟩
 | q :: c, xs, ⟨h1, h2⟩ => by
   obtain ⟨g1, g2⟩ := Val_run h2
   have e : ∀ k, lfA xs (q :: c) (k + 1) = lfA (tkI xs q) c k := by
     intro k
     induction k with
     | zero => rfl
     | succ k ih => rw [lfA, ih, lfA]; try rfl
   refine ⟨fun i hi => ?_, ?_⟩
   · cases i with
     | zero => exact h1
     | succ i =>
       unfold lfC
       rw [e]
       exact g1 i (by simpa using hi)
   · rw [List.length_cons, e]; exact g2
theorem lfA_Cl {xs : Fs} (hC : Cl xs) (c : LP) : ∀ k, (∀ i, i < k -> lfC xs c i = true) -> Cl (lfA xs c k)
 | 0, _ => hC
 | k + 1, h => by
   have ih := lfA_Cl hC c k fun i hi => h i (by omega)
   have hk := h k (by omega)
   have hP : canP (gB (lfA xs c k)) (c.getD k (0, 0)).1 (c.getD k (0, 0)).2 := of_decide_eq_true hk
   unfold lfC at hk
   rw [lfA]
   generalize c.getD k (0, 0) = q at hk hP
   obtain ⟨q1, q2⟩ := q
   have e1 : ((q1.toNat : Nat) : Int) = q1 := Int.toNat_of_nonneg (by have := hP.1; simp only at this; omega)
   have e2 : ((q2.toNat : Nat) : Int) = q2 := Int.toNat_of_nonneg (by have := hP.2.1; simp only at this; omega)
   rw [<- e1, <- e2] at hk |-
   exact Cl_tk ih hk
theorem col_yes {n : Int} {p : List Int} (h : cxOk n p) (hc : colR p = true) : lfB (mk (isF p)) (colP p) = true /\ oneB (lfR (mk (isF p)) (colP p)) = true := by
 have hC := Cl_mk (isF_zero h)
 obtain ⟨f1, _⟩ := fl_good 33 (mk (isF p)) [] [] hC.hl (cN33 _) sndF_nil
 have e : colP p = (fl 33 (mk (isF p)) [] []).2.2.1 := by
   unfold colP colL; rw [if_pos (show colB 33 p = true from hc)]
 have hr : (fl 33 (mk (isF p)) [] []).1 = true := by
   have h1 : colB 33 p = true := hc
   unfold colB at h1
   rw [Bool.and_eq_true] at h1
   exact h1.2
 obtain ⟨c, e1, hv⟩ := f1 hr
 rw [List.nil_append] at e1
 rw [e, e1]
 obtain ⟨g1, g2⟩ := Val_run hv
 have hb : lfB (mk (isF p)) c = true := decide_eq_true g1
 refine ⟨hb, ?_⟩
 unfold lfR
 rw [if_pos hb, one_iff (lfA_Cl hC c c.length g1)]
 exact decide_eq_true g2
end Go.Am.Sh

/- Shells: the law of the collapses, its loops. -/
namespace Go.Am.Sh
open Go Go.Am Go.Proofs
def f35 : Entry Try.prog gl := entry2 35 ⟨Try.f35, by kernel_rfl, by kernel_rfl, by kernel_rfl⟩ I64 SI (fun (n : Int) p => cxOk n p) false (fun _ p => [.sl I64 (fcs p)]) (fun _ _ => []) (fun n p h => by
 have := call35 n p ⟨h.1, h.ok, by have := h.2.1.2; omega⟩
 rwa [faces_fcs h] at this)
noncomputable def L11_0 : Code := lp (bodyOf Try.f11) 0
noncomputable def L11_2 : Code := lp (bodyOf Try.f11) 2
noncomputable def L11_4 : Code := lp (bodyOf Try.f11) 4
def tk12 (b : LP) (k : Nat) : LP := b.take k
def sa11 (n : Int) (p : List Int) (b : LP) (x : AV) (k : Nat) : List AV := dd 2 ++ .sl P2 b :: dd 4 ++ .int .i64 n :: .sl I64 p :: .sl I64 (fcs p) :: dd 8 ++ x :: .int .i64 k :: dd 194
def saz (n : Int) (p : List Int) (b : LP) (k : Nat) : St := ⟨sa11 n p b nl k, []⟩
def sat (n : Int) (p : List Int) (b : LP) (k : Nat) : St := ⟨sa11 n p b (.own 0 0) k, [.sc 0 62 P2 (tk12 b k)]⟩
def ka11 (b : LP) (k : Nat) : Prop := k <= b.length /\ k <= 12
def fa11 (n : Int) (p : List Int) (b : LP) : List Fam := [⟨Nat, fun k => ka11 b k /\ tk12 b k = [], saz n p b, fun k => 12 - k, fun _ _ => none⟩, ⟨Nat, ka11 b, sat n p b, fun k => 12 - k, fun _ _ => none⟩]
def xa11 (n : Int) (p : List Int) (b : LP) : List (List Nat × Ex) := [([2, 7, 8, 9, 18], ⟨0, Unit, fun _ => tk12 b 12 = [], fun _ => ⟨dd 2 ++ .sl P2 b :: dd 4 ++ .int .i64 n :: .sl I64 p :: .sl I64 (fcs p) :: dd 8 ++ nl :: dd 195, []⟩⟩),
 ([2, 7, 8, 9, 18], ⟨0, Unit, fun _ => True, fun _ => ⟨dd 2 ++ .sl P2 b :: dd 4 ++ .int .i64 n :: .sl I64 p :: .sl I64 (fcs p) :: dd 8 ++ .own 0 0 :: dd 195, [.sc 0 62 P2 (tk12 b 12)]⟩⟩)]
def ha11 (n : Int) (p : List Int) (b : LP) : Hint := ⟨chks 0 [2, 7, 8, 9, 18, 19] (fa11 n p b), (xa11 n p b).map (·.2)⟩
theorem tk12_end {b : LP} {k : Nat} (h : ka11 b k) (h2 : ¬ (k < b.length /\ k < 12)) : tk12 b k = tk12 b 12 := by
 obtain ⟨h1, h3⟩ := h
 unfold tk12
 by_cases e : k = 12
 · rw [e]
 · rw [List.take_of_length_le (show b.length <= k by omega), List.take_of_length_le (show b.length <= 12 by omega)]
theorem loop11a (l : EL) (n : Int) (p : List Int) (b : LP) (hb : b.length < 1000000000000000) (R : Exit -> St -> Prop) : LoopOK (X l) L11_0 (ha11 n p b) R := by
 refine loop_fams (X_ok _) [2, 7, 8, 9, 18, 19] (fa11 n p b) (xa11 n p b) 150 ⟨fun (k : Nat) hk => ?_, fun (k : Nat) hk => ?_, trivial⟩
 · refine of_eq (q := (fun (g : Nat) => (fun (f : Prop) => (fun (e : Int) => (fun (d : List Int) => (fun (c : Int × Int) => (fun (a : Prop) => f /\ f /\ f /\ f /\ f /\ (e < (↑(List.length b) : Int) -> f /\ f /\ f /\ (e < 12 -> f /\ f /\ f /\ idxPre e (List.length b) /\ f /\ f /\ sumPre (0 : Nat) [(c.fst, c.snd)].length (nat_lit 16) /\ f /\ f /\ inR .i64 (e + 1) /\ f /\ ((∃ (y : Nat), ((ka11 b y /\ tk12 b y = []) /\ g - y < g - k) /\ (b = b /\ n = n /\ p = p /\ d = d /\ False /\ e + 1 = (y : Int) /\ f) /\ f) ∨ ∃ (y : Nat), (ka11 b y /\ g - y < g - k) /\ (b = b /\ n = n /\ p = p /\ d = d /\ f /\ e + 1 = (y : Int) /\ f) /\ [(c.fst, c.snd)] = tk12 b y /\ f)) /\ (¬e < 12 -> a)) /\ (¬e < (↑(List.length b) : Int) -> f /\ a)) ((∃ (y : Unit), tk12 b g = [] /\ (b = b /\ n = n /\ p = p /\ d = d /\ f /\ f) /\ f) ∨ ∃ (y : Unit), f /\ (b = b /\ n = n /\ p = p /\ d = d /\ False /\ f) /\ False)) (List.getD b k ((0 : Int), (0 : Int)))) (fcs p)) ((k : Int))) (True)) ((12 : Nat))) (by kernel_rfl) ?_
   simp only [zz]
   obtain ⟨hk, hz⟩ := hk
   have hka := hk
   obtain ⟨k1, k2⟩ := hk
   refine ⟨fun h1 => ⟨fun h2 => ⟨idx_nat (by omega), by unfold sumPre; simp, by simp only [inR]; omega, k + 1, ⟨⟨by omega, by omega⟩, by omega⟩, by omega, ?_⟩, fun h2 => ?_⟩, fun h1 => ?_⟩
   · unfold tk12 at hz |-
     rw [take_getD (d := (0, 0)) (by omega), hz]; try rfl
   · rw [<- tk12_end hka (by omega)]; exact hz
   · rw [<- tk12_end hka (by omega)]; exact hz
 · refine of_eq (q := (fun (g : Nat) => (fun (f : Prop) => (fun (e : Int) => (fun (d : List Int) => (fun (c : Int × Int) => (fun (a : Prop) => f /\ f /\ f /\ f /\ f /\ (e < (↑(List.length b) : Int) -> f /\ f /\ f /\ (e < 12 -> f /\ f /\ f /\ idxPre e (List.length b) /\ f /\ f /\ sumPre (List.length (tk12 b k)) [(c.fst, c.snd)].length (nat_lit 16) /\ f /\ f /\ inR .i64 (e + 1) /\ f /\ ((∃ (y : Nat), ((ka11 b y /\ tk12 b y = []) /\ g - y < g - k) /\ (b = b /\ n = n /\ p = p /\ d = d /\ False /\ e + 1 = (y : Int) /\ f) /\ f) ∨ ∃ (y : Nat), (ka11 b y /\ g - y < g - k) /\ (b = b /\ n = n /\ p = p /\ d = d /\ f /\ e + 1 = (y : Int) /\ f) /\ tk12 b k ++ [(c.fst, c.snd)] = tk12 b y /\ f)) /\ (¬e < 12 -> a)) /\ (¬e < (↑(List.length b) : Int) -> f /\ a)) ((∃ (y : Unit), tk12 b g = [] /\ (b = b /\ n = n /\ p = p /\ d = d /\ False /\ f) /\ f) ∨ ∃ (y : Unit), f /\ (b = b /\ n = n /\ p = p /\ d = d /\ f /\ f) /\ tk12 b k = tk12 b g /\ f)) (List.getD b k ((0 : Int), (0 : Int)))) (fcs p)) ((k : Int))) (True)) ((12 : Nat))) (by kernel_rfl) ?_
   simp only [zz]
   have hka : ka11 b k := hk
   obtain ⟨k1, k2⟩ := hk
   have hlen : (tk12 b k).length <= k := by unfold tk12; rw [List.length_take]; omega
   refine ⟨fun h1 => ⟨fun h2 => ⟨idx_nat (by omega), by unfold sumPre; simp; omega, by simp only [inR]; omega, k + 1, ⟨⟨by omega, by omega⟩, by omega⟩, by omega, ?_⟩, fun h2 => tk12_end hka (by omega)⟩, fun h1 => tk12_end hka (by omega)⟩
   unfold tk12
   rw [take_getD (d := (0, 0)) (by omega)] <;> rfl
def pkI (l : List Int) (f : Int) : Int := l.getD ((modU .u64 f).tmod l.length).toNat 0
def pkQ (l : List Int) (q : Int × Int) : Int × Int := (pkI l q.1, pkI l q.2)
def nlK (p : List Int) (b : LP) : Nat -> List Int × LP
 | 0 => (fcs p, [])
 | k + 1 => if clB (nlK p b k).1 (pkQ (nlK p b k).1 (b.getD k (0, 0))).1 (pkQ (nlK p b k).1 (b.getD k (0, 0))).2 = true then (clR (nlK p b k).1 (pkQ (nlK p b k).1 (b.getD k (0, 0))).1 (pkQ (nlK p b k).1 (b.getD k (0, 0))).2, (nlK p b k).2 ++ [pkQ (nlK p b k).1 (b.getD k (0, 0))]) else nlK p b k
def sn11 (n : Int) (p : List Int) (b : LP) (j : Nat) (x : AV) (k : Nat) : List AV := dd 2 ++ .sl P2 b :: dd 4 ++ .int .i64 n :: .sl I64 p :: .sl I64 (fcs p) :: dd 10 ++ .int .i64 j :: dd 5 ++ x :: .sl I64 (nlK p b k).1 :: .int .i64 k :: dd 185
def snz (n : Int) (p : List Int) (b : LP) (j : Nat) (k : Nat) : St := ⟨sn11 n p b j nl k, []⟩
def snt (n : Int) (p : List Int) (b : LP) (j : Nat) (k : Nat) : St := ⟨sn11 n p b j (.own 0 0) k, [.sc 0 62 P2 (nlK p b k).2]⟩
def fn11 (n : Int) (p : List Int) (b : LP) (j : Nat) : List Fam := [⟨Nat, fun k => ka11 b k /\ (nlK p b k).2 = [], snz n p b j, fun k => 12 - k, fun _ _ => none⟩, ⟨Nat, ka11 b, snt n p b j, fun k => 12 - k, fun _ _ => none⟩]
def nlE (p : List Int) (b : LP) : LP := (nlK p b (min b.length 12)).2
def xn11 (n : Int) (p : List Int) (b : LP) (j : Nat) : List (List Nat × Ex) := [([2, 7, 8, 9, 20, 26], ⟨4, Unit, fun _ => nlE p b = [], fun _ => ⟨dd 2 ++ .sl P2 b :: dd 4 ++ .int .i64 n :: .sl I64 p :: .sl I64 (fcs p) :: dd 10 ++ .int .i64 j :: dd 5 ++ nl :: dd 187, []⟩⟩),
 ([2, 7, 8, 9, 20, 26], ⟨4, Unit, fun _ => True, fun _ => ⟨dd 2 ++ .sl P2 b :: dd 4 ++ .int .i64 n :: .sl I64 p :: .sl I64 (fcs p) :: dd 10 ++ .int .i64 j :: dd 5 ++ .own 0 0 :: dd 187, [.sc 0 62 P2 (nlE p b)]⟩⟩)]
def hn11 (n : Int) (p : List Int) (b : LP) (j : Nat) : Hint := ⟨chks 0 [2, 7, 8, 9, 20, 26, 27, 28] (fn11 n p b j), (xn11 n p b j).map (·.2)⟩
noncomputable abbrev X11n : Cy := Xh [e51] (fun t => Nat.beq t 177 || Nat.beq t 191) (drOf [(30, 31)])
theorem nl_Cl {p : List Int} (h0 : isF p 0 = true) (b : LP) : ∀ k, ∃ ys, Cl ys /\ (nlK p b k).1 = trueN (gB ys) 64
 | 0 => ⟨mk (isF p), Cl_mk h0, fcs_mk p⟩
 | k + 1 => by
   obtain ⟨ys, h1, h2⟩ := nl_Cl h0 b k
   rw [nlK]
   generalize pkQ (nlK p b k).1 (b.getD k (0, 0)) = q
   obtain ⟨q1, q2⟩ := q
   split
   · rename_i hc
     simp only at hc |-
     rw [h2] at hc |-
     rw [cl_can] at hc
     have hP : canP (gB ys) q1 q2 := of_decide_eq_true hc
     refine ⟨tkI ys (q1, q2), ?_, cl_left h1.hl hc⟩
     have e1 : ((q1.toNat : Nat) : Int) = q1 := Int.toNat_of_nonneg (by have := hP.1; omega)
     have e2 : ((q2.toNat : Nat) : Int) = q2 := Int.toNat_of_nonneg (by have := hP.2.1; omega)
     rw [<- e1, <- e2] at hc |-
     exact Cl_tk h1 hc
   · exact ⟨ys, h1, h2⟩
theorem nl_yes {p : List Int} {b : LP} {k : Nat} (h : clB (nlK p b k).1 (pkI (nlK p b k).1 (b.getD k (0, 0)).1) (pkI (nlK p b k).1 (b.getD k (0, 0)).2) = true) : (nlK p b (k + 1)).1 = clR (nlK p b k).1 (pkI (nlK p b k).1 (b.getD k (0, 0)).1) (pkI (nlK p b k).1 (b.getD k (0, 0)).2) /\ (nlK p b (k + 1)).2 = (nlK p b k).2 ++ [(pkI (nlK p b k).1 (b.getD k (0, 0)).1, pkI (nlK p b k).1 (b.getD k (0, 0)).2)] := by
 have e : nlK p b (k + 1) = (clR (nlK p b k).1 (pkI (nlK p b k).1 (b.getD k (0, 0)).1) (pkI (nlK p b k).1 (b.getD k (0, 0)).2), (nlK p b k).2 ++ [(pkI (nlK p b k).1 (b.getD k (0, 0)).1, pkI (nlK p b k).1 (b.getD k (0, 0)).2)]) := by
   rw [nlK]; exact if_pos h
 rw [e]; exact ⟨rfl, rfl⟩
theorem nl_no {p : List Int} {b : LP} {k : Nat} (h : clB (nlK p b k).1 (pkI (nlK p b k).1 (b.getD k (0, 0)).1) (pkI (nlK p b k).1 (b.getD k (0, 0)).2) = false) : nlK p b (k + 1) = nlK p b k := by
 rw [nlK]
 exact if_neg (by show ¬ clB (nlK p b k).1 (pkI (nlK p b k).1 (b.getD k (0, 0)).1) (pkI (nlK p b k).1 (b.getD k (0, 0)).2) = true; rw [h]; decide)
structure nlP (l : List Int) : Prop where
 ok : okL l
 pos : 0 < l.length
 le : l.length <= 64
theorem nl_P {p : List Int} (h0 : isF p 0 = true) (b : LP) (k : Nat) : nlP (nlK p b k).1 := by
 obtain ⟨ys, h1, h2⟩ := nl_Cl h0 b k
 rw [h2]
 exact ⟨trueN_ok _, List.length_pos_of_mem (trueN_has (k := 64) (by decide) h1.z), trueN_len _ _⟩
theorem nl_len (p : List Int) (b : LP) : ∀ k, (nlK p b k).2.length <= k
 | 0 => Nat.le_refl _
 | k + 1 => by
   have := nl_len p b k
   rw [nlK]; split
   · simp only; rw [List.length_append, List.length_singleton]; omega
   · omega
theorem okP_app {c : LP} (h : okP c) {q : Int × Int} (hq : inR .i64 q.1 /\ inR .i64 q.2) : okP (c ++ [q]) := fun i => by
 rcases Nat.lt_or_ge i c.length with hi | hi
 · rw [List.getD_eq_getElem?_getD, List.getElem?_append_left hi, <- List.getD_eq_getElem?_getD]; exact h i
 · rw [List.getD_eq_getElem?_getD, List.getElem?_append_right hi]
   rcases Nat.eq_zero_or_pos (i - c.length) with e | e
   · rw [e]; exact hq
   · rw [List.getElem?_eq_none (by simp; omega)]; exact ⟨by show inR .i64 (0 : Int); simp only [inR]; omega, by show inR .i64 (0 : Int); simp only [inR]; omega⟩
theorem nl_okP {p : List Int} (h0 : isF p 0 = true) (b : LP) : ∀ k, okP (nlK p b k).2
 | 0 => fun i => ⟨by simp [nlK, inR], by simp [nlK, inR]⟩
 | k + 1 => by
   have ih := nl_okP h0 b k
   have hg := okL_get (nl_P h0 b k).ok
   rw [nlK]; split
   · exact okP_app ih ⟨inR_of (hg _), inR_of (hg _)⟩
   · exact ih
theorem tm_idx {l : List Int} (h : nlP l) (f : Int) : inR .i64 ((modU .u64 f).tmod l.length) /\ idxPre ((modU .u64 f).tmod l.length) l.length /\ inR .i64 (l.getD ((modU .u64 f).tmod l.length).toNat 0) := by
 have h1 := h.pos
 have h2 := h.le
 have h3 := Int.tmod_nonneg (a := modU .u64 f) (l.length : Int) (u64_nn f)
 have h4 := Int.tmod_lt_of_pos (modU .u64 f) (show (0 : Int) < l.length by omega)
 exact ⟨by simp only [inR]; omega, by unfold idxPre; omega, inR_of (okL_get h.ok _)⟩
theorem nlE_at {p : List Int} {b : LP} {k : Nat} (h : ka11 b k) (h2 : ¬ (k < b.length /\ k < 12)) : (nlK p b k).2 = nlE p b := by
 obtain ⟨h1, h3⟩ := h
 unfold nlE
 rw [show min b.length 12 = k by omega]
set_option maxRecDepth 10000 in
theorem loop11n (n : Int) (p : List Int) (b : LP) (j : Nat) (h : cxOk n p) (hb : b.length < 1000000000000000) (R : Exit -> St -> Prop) : LoopOK (X11n) L11_4 (hn11 n p b j) R := by
 refine loop_fams (Xh_ok _ _ _) [2, 7, 8, 9, 20, 26, 27, 28] (fn11 n p b j) (xn11 n p b j) 200 ⟨fun (k : Nat) hk => ?_, fun (k : Nat) hk => ?_, trivial⟩
 · refine of_eq (q := (fun (s : Nat) => (fun (l : Int) => (fun (r : Int) => (fun (i : Prop) => (fun (h : Prop) => (fun (g : Int) => (fun (f : Prop) => (fun (e : Prop) => (fun (a : List Int) => (fun (q : Int) => (fun (d : Int) => (fun (m : Int) => (fun (c : Int) => (fun (o : Int) => f /\ f /\ f /\ f /\ f /\ (l < (↑(List.length b) : Int) -> f /\ f /\ f /\ (l < 12 -> f /\ f /\ f /\ idxPre l (List.length b) /\ idxPre g (2 : Nat) /\ f /\ f /\ f /\ f /\ inR .u64 q /\ ¬q = g /\ inR .i64 d /\ idxPre d a.length /\ f /\ f /\ f /\ f /\ idxPre l (List.length b) /\ idxPre (1 : Int) (2 : Nat) /\ f /\ f /\ f /\ f /\ inR .u64 q /\ ¬q = g /\ inR .i64 c /\ idxPre c a.length /\ f /\ f /\ f /\ f /\ f /\ f /\ ((a.length < 1000000 /\ inR .i64 m /\ inR .i64 o) /\ f) /\ f /\ f /\ f /\ f /\ f /\ f /\ (clB a m o = true -> f /\ f /\ f /\ f /\ f /\ sumPre (0 : Nat) [(m, o)].length (nat_lit 16) /\ f /\ f /\ inR .i64 r /\ f /\ ((∃ (y : Nat), ((ka11 b y /\ (nlK p b y).snd = []) /\ s - y < s - k) /\ (b = b /\ n = n /\ p = p /\ h /\ i /\ False /\ clR a m o = (nlK p b y).fst /\ r = (y : Int) /\ f) /\ f) ∨ ∃ (y : Nat), (ka11 b y /\ s - y < s - k) /\ (b = b /\ n = n /\ p = p /\ h /\ i /\ f /\ clR a m o = (nlK p b y).fst /\ r = (y : Int) /\ f) /\ [(m, o)] = (nlK p b y).snd /\ f)) /\ (clB a m o = false -> f /\ inR .i64 r /\ f /\ ((∃ (y : Nat), ((ka11 b y /\ (nlK p b y).snd = []) /\ s - y < s - k) /\ (b = b /\ n = n /\ p = p /\ h /\ i /\ f /\ a = (nlK p b y).fst /\ r = (y : Int) /\ f) /\ f) ∨ ∃ (y : Nat), (ka11 b y /\ s - y < s - k) /\ (b = b /\ n = n /\ p = p /\ h /\ i /\ False /\ a = (nlK p b y).fst /\ r = (y : Int) /\ f) /\ False))) /\ (¬l < 12 -> e)) /\ (¬l < (↑(List.length b) : Int) -> f /\ e)) (a.getD c.toNat g)) ((modU .u64 (List.getD b k (g, g)).snd).tmod q)) (a.getD d.toNat g)) ((modU .u64 (List.getD b k (g, g)).fst).tmod q)) ((a.length : Int))) ((nlK p b k).fst)) ((∃ (y : Unit), nlE p b = [] /\ (b = b /\ n = n /\ p = p /\ h /\ i /\ f /\ f) /\ f) ∨ ∃ (y : Unit), f /\ (b = b /\ n = n /\ p = p /\ h /\ i /\ False /\ f) /\ False)) (True)) ((0 : Int))) (fcs p = fcs p)) ((j : Int) = (j : Int))) (l + 1)) ((k : Int))) ((12 : Nat))) (by kernel_rfl) ?_
   simp only [zz]
   obtain ⟨hk, hz⟩ := hk
   have hka := hk
   obtain ⟨k1, k2⟩ := hk
   have hP := nl_P (isF_zero h) b k
   obtain ⟨a1, a2, a3⟩ := tm_idx hP (b.getD k (0, 0)).1
   obtain ⟨b1, b2, b3⟩ := tm_idx hP (b.getD k (0, 0)).2
   have hp := hP.pos
   have hq := hP.le
   have hu : inR .u64 ((nlK p b k).1.length : Int) := by simp only [inR]; omega
   have hne : ¬ ((nlK p b k).1.length : Int) = 0 := by omega
   refine ⟨fun h1 => ⟨fun h2 => ⟨idx_nat (by omega), i02, hu, hne, a1, a2, idx_nat (by omega), i12, hu, hne, b1, b2, ⟨by omega, a3, b3⟩, fun hc => ?_, fun hc => ?_⟩, fun h2 => ?_⟩, fun h1 => ?_⟩
   · obtain ⟨c1, c2⟩ := nl_yes hc
     exact ⟨by unfold sumPre; simp, by simp only [inR]; omega, k + 1, ⟨⟨by omega, by omega⟩, by omega⟩, ⟨c1.symm, by omega⟩, by rw [c2, hz]; rfl⟩
   · have c1 := nl_no hc
     exact ⟨by simp only [inR]; omega, k + 1, ⟨⟨⟨by omega, by omega⟩, by rw [c1]; exact hz⟩, by omega⟩, by rw [c1], by omega⟩
   · rw [<- nlE_at hka (by omega)]; exact hz
   · rw [<- nlE_at hka (by omega)]; exact hz
 · refine of_eq (q := (fun (t : Nat) => (fun (s : LP) => (fun (l : Int) => (fun (r : Int) => (fun (i : Prop) => (fun (h : Prop) => (fun (g : Int) => (fun (f : Prop) => (fun (e : Prop) => (fun (a : List Int) => (fun (q : Int) => (fun (d : Int) => (fun (o : Int) => (fun (c : Int) => (fun (m : Int) => f /\ f /\ f /\ f /\ f /\ (l < (↑(List.length b) : Int) -> f /\ f /\ f /\ (l < 12 -> f /\ f /\ f /\ idxPre l (List.length b) /\ idxPre g (2 : Nat) /\ f /\ f /\ f /\ f /\ inR .u64 q /\ ¬q = g /\ inR .i64 d /\ idxPre d a.length /\ f /\ f /\ f /\ f /\ idxPre l (List.length b) /\ idxPre (1 : Int) (2 : Nat) /\ f /\ f /\ f /\ f /\ inR .u64 q /\ ¬q = g /\ inR .i64 c /\ idxPre c a.length /\ f /\ f /\ f /\ f /\ f /\ f /\ ((a.length < 1000000 /\ inR .i64 o /\ inR .i64 m) /\ f) /\ f /\ f /\ f /\ f /\ f /\ f /\ (clB a o m = true -> f /\ f /\ f /\ f /\ f /\ sumPre (List.length s) [(o, m)].length (nat_lit 16) /\ f /\ f /\ inR .i64 r /\ f /\ ((∃ (y : Nat), ((ka11 b y /\ (nlK p b y).snd = []) /\ t - y < t - k) /\ (b = b /\ n = n /\ p = p /\ h /\ i /\ False /\ clR a o m = (nlK p b y).fst /\ r = (y : Int) /\ f) /\ f) ∨ ∃ (y : Nat), (ka11 b y /\ t - y < t - k) /\ (b = b /\ n = n /\ p = p /\ h /\ i /\ f /\ clR a o m = (nlK p b y).fst /\ r = (y : Int) /\ f) /\ s ++ [(o, m)] = (nlK p b y).snd /\ f)) /\ (clB a o m = false -> f /\ inR .i64 r /\ f /\ ((∃ (y : Nat), ((ka11 b y /\ (nlK p b y).snd = []) /\ t - y < t - k) /\ (b = b /\ n = n /\ p = p /\ h /\ i /\ False /\ a = (nlK p b y).fst /\ r = (y : Int) /\ f) /\ f) ∨ ∃ (y : Nat), (ka11 b y /\ t - y < t - k) /\ (b = b /\ n = n /\ p = p /\ h /\ i /\ f /\ a = (nlK p b y).fst /\ r = (y : Int) /\ f) /\ s = (nlK p b y).snd /\ f))) /\ (¬l < 12 -> e)) /\ (¬l < (↑(List.length b) : Int) -> f /\ e)) (a.getD c.toNat g)) ((modU .u64 (List.getD b k (g, g)).snd).tmod q)) (a.getD d.toNat g)) ((modU .u64 (List.getD b k (g, g)).fst).tmod q)) ((a.length : Int))) ((nlK p b k).fst)) ((∃ (y : Unit), nlE p b = [] /\ (b = b /\ n = n /\ p = p /\ h /\ i /\ False /\ f) /\ f) ∨ ∃ (y : Unit), f /\ (b = b /\ n = n /\ p = p /\ h /\ i /\ f /\ f) /\ s = nlE p b /\ f)) (True)) ((0 : Int))) (fcs p = fcs p)) ((j : Int) = (j : Int))) (l + 1)) ((k : Int))) ((nlK p b k).snd)) ((12 : Nat))) (by kernel_rfl) ?_
   simp only [zz]
   have hka : ka11 b k := hk
   obtain ⟨k1, k2⟩ := hk
   have hP := nl_P (isF_zero h) b k
   obtain ⟨a1, a2, a3⟩ := tm_idx hP (b.getD k (0, 0)).1
   obtain ⟨b1, b2, b3⟩ := tm_idx hP (b.getD k (0, 0)).2
   have hp := hP.pos
   have hq := hP.le
   have hu : inR .u64 ((nlK p b k).1.length : Int) := by simp only [inR]; omega
   have hne : ¬ ((nlK p b k).1.length : Int) = 0 := by omega
   have hnl := nl_len p b k
   refine ⟨fun h1 => ⟨fun h2 => ⟨idx_nat (by omega), i02, hu, hne, a1, a2, idx_nat (by omega), i12, hu, hne, b1, b2, ⟨by omega, a3, b3⟩, fun hc => ?_, fun hc => ?_⟩, fun h2 => nlE_at hka (by omega)⟩, fun h1 => nlE_at hka (by omega)⟩
   · obtain ⟨c1, c2⟩ := nl_yes hc
     exact ⟨by unfold sumPre; simp; omega, by simp only [inR]; omega, k + 1, ⟨⟨by omega, by omega⟩, by omega⟩, ⟨c1.symm, by omega⟩, c2.symm⟩
   · have c1 := nl_no hc
     exact ⟨by simp only [inR]; omega, k + 1, ⟨⟨by omega, by omega⟩, by omega⟩, ⟨by rw [c1], by omega⟩, by rw [c1]⟩
abbrev LS := LP × Nat
def sr11 (n : Int) (p : List Int) (b : LP) (x : AV) (j : Nat) : List AV := dd 2 ++ .sl P2 b :: dd 4 ++ .int .i64 n :: .sl I64 p :: .sl I64 (fcs p) :: dd 8 ++ x :: .dead :: .int .i64 j :: dd 193
def srz (n : Int) (p : List Int) (b : LP) (j : Nat) : St := ⟨sr11 n p b nl j, []⟩
def srt (n : Int) (p : List Int) (b : LP) (x : LS) : St := ⟨sr11 n p b (.own 0 0) x.2, [.sc 0 62 P2 x.1]⟩
def kr11 (c : LP) : Prop := okP c /\ c.length <= 12
def fr11 (n : Int) (p : List Int) (b : LP) : List Fam := [⟨Nat, fun j => j <= 2, srz n p b, fun j => 2 - j, fun j _ => some (hn11 n p b j)⟩, ⟨LS, fun x => x.2 <= 2 /\ kr11 x.1, srt n p b, fun x => 2 - x.2, fun x _ => some (hn11 n p b x.2)⟩]
def xr11 : List (List Nat × Ex) := [([], ⟨2, Unit, fun _ => True, fun _ => ⟨dd 214, []⟩⟩)]
def hr11 (n : Int) (p : List Int) (b : LP) : Hint := ⟨chks 0 [2, 7, 8, 9, 18, 20] (fr11 n p b), xr11.map (·.2)⟩
noncomputable abbrev X11r : Cy := Xh [e48, g50, e23, e51] (fun t => Nat.beq t 177 || Nat.beq t 191) (drOf [(30, 31)])
noncomputable def R11 : Exit -> St -> Prop := RetR X11r true false [.tmp 6] [.tt] []
theorem loop11m (n : Int) (p : List Int) (b : LP) (j : Nat) (h : cxOk n p) (hb : b.length < 1000000000000000) (R : Exit -> St -> Prop) : LoopOK X11r L11_4 (hn11 n p b j) R := by
 exact loop11n n p b j h hb R
theorem lfR_len (xs : Fs) (c : LP) : (lfR xs c).length <= 64 := by
 unfold lfR; split
 · exact trueN_len _ _
 · exact Nat.zero_le _
theorem nlE_ok {n : Int} {p : List Int} (h : cxOk n p) (b : LP) : kr11 (nlE p b) := by
 have := nl_len p b (min b.length 12)
 exact ⟨nl_okP (isF_zero h) b _, by unfold nlE; omega⟩
theorem loop11r (n : Int) (p : List Int) (b : LP) (h : cxOk n p) (hb : b.length < 1000000000000000) : LoopOK X11r L11_2 (hr11 n p b) R11 := by
 refine loop_fams (Xh_ok _ _ _) [2, 7, 8, 9, 18, 20] (fr11 n p b) xr11 250 ⟨fun (j : Nat) hj => ?_, fun (x : LS) hx => ?_, trivial⟩
 · have hL := loop11m n p b j h hb (bodyR 0 xr11 R11)
   refine of_eq (q := (fun (l : Int) => (fun (i : Nat) => (fun (h : Int) => (fun (k : Int) => (fun (f : List Int) => (fun (e : List Int) => (fun (m : Bool) => (fun (d : Prop) => (fun (g : Prop) => (fun (a : Prop) => (fun (c : Prop) => d /\ d /\ (h < 2 -> d /\ d /\ (((e.length < 1000000 /\ okP []) /\ (0 : Nat) < 1000000000000000) /\ d) /\ d /\ d /\ d /\ d /\ d /\ d /\ d /\ d /\ ((cxOk n p /\ (0 : Nat) < 1000000000000000) /\ d) /\ d /\ d /\ d /\ d /\ d /\ d /\ d /\ d /\ d /\ d /\ (¬l = l -> d /\ d /\ d /\ d /\ d /\ g) /\ (¬¬l = l -> d /\ d /\ d /\ d /\ d /\ (false = true -> d /\ d /\ d /\ g) /\ (false = false -> d /\ d /\ (true = true -> d /\ d /\ (f.length + 1 <= 1000000000000000 /\ d) /\ d /\ d /\ d /\ d /\ (m = true -> d /\ g) /\ (m = false -> c)) /\ (true = false -> d /\ d /\ d /\ c)))) /\ (¬h < 2 -> ∃ (y : Unit), d /\ d /\ d)) (d /\ d /\ d /\ (false = true -> d /\ d /\ d /\ d /\ d /\ (¬(f.length : Int) = l -> g) /\ (¬¬(f.length : Int) = l -> a)) /\ (false = false -> d /\ d /\ a))) (d /\ d /\ d /\ d /\ LoopOK X11r L11_4 (hn11 n p b j) (bodyR (0 : Nat) xr11 R11) /\ ((∃ (y : Nat), (ka11 b y /\ (nlK p b y).snd = []) /\ (b = b /\ n = n /\ p = p /\ e = e /\ h = h /\ d /\ e = (nlK p b y).fst /\ l = (y : Int) /\ d) /\ d) ∨ ∃ (y : Nat), ka11 b y /\ (b = b /\ n = n /\ p = p /\ e = e /\ h = h /\ False /\ e = (nlK p b y).fst /\ l = (y : Int) /\ d) /\ False) /\ (∀ (y : Unit), nlE p b = [] -> d /\ d /\ d /\ inR .i64 k /\ d /\ ((∃ (y : Nat), (y <= i /\ i - y < i - j) /\ (b = b /\ n = n /\ p = p /\ e = e /\ d /\ k = (y : Int) /\ d) /\ d) ∨ ∃ (y : LP × Nat), ((y.snd <= i /\ kr11 y.fst) /\ i - y.snd < i - j) /\ (b = b /\ n = n /\ p = p /\ e = e /\ False /\ k = (y.snd : Int) /\ d) /\ False)) /\ (∀ (y : Unit), d -> d /\ d /\ d /\ inR .i64 k /\ d /\ ((∃ (y : Nat), (y <= i /\ i - y < i - j) /\ (b = b /\ n = n /\ p = p /\ e = e /\ False /\ k = (y : Int) /\ d) /\ d) ∨ ∃ (y : LP × Nat), ((y.snd <= i /\ kr11 y.fst) /\ i - y.snd < i - j) /\ (b = b /\ n = n /\ p = p /\ e = e /\ d /\ k = (y.snd : Int) /\ d) /\ nlE p b = y.fst /\ d)) /\ d)) (d /\ d /\ (false = true /\ d) /\ d)) (True)) (!decide (f = rlR e []))) (fcs p)) (lfR (mk (isF p)) [])) (h + 1)) ((j : Int))) ((2 : Nat))) ((0 : Int))) (by kernel_rfl) ?_
   simp only [zz]
   have hj : j <= 2 := hj
   have hE := nlE_ok h b
   have hf := fcs_len p
   have eR := leftR_eq (mk_length (isF p)) []
   rw [<- fcs_mk] at eR
   have hl := lfR_len (mk (isF p)) []
   rw [eR]
   have main : j < 2 -> LoopOK X11r L11_4 (hn11 n p b j) (bodyR 0 xr11 R11) /\ (∃ y, (ka11 b y /\ (nlK p b y).2 = []) /\ fcs p = (nlK p b y).1 /\ 0 = (y : Int)) /\
       (∀ y : PUnit, nlE p b = [] -> inR .i64 ((j : Int) + 1) /\ ∃ y : Nat, (y <= 2 /\ 2 - y < 2 - j) /\ (j : Int) + 1 = y) /\
       ∀ y : PUnit, True -> inR .i64 ((j : Int) + 1) /\ ∃ y : LS, ((y.2 <= 2 /\ kr11 y.1) /\ 2 - y.2 < 2 - j) /\ (j : Int) + 1 = y.2 /\ nlE p b = y.1 := fun h2 =>
     ⟨hL, ⟨0, ⟨⟨Nat.zero_le _, Nat.zero_le _⟩, rfl⟩, rfl, rfl⟩, fun _ _ => ⟨by simp only [inR]; omega, j + 1, by omega, by omega⟩, fun _ _ => ⟨by simp only [inR]; omega, (nlE p b, j + 1), ⟨⟨by simp only; omega, hE⟩, by simp only; omega⟩, by simp only; omega, rfl⟩⟩
   refine ⟨fun h2 => ⟨⟨⟨by omega, fun i => ⟨by simp [inR], by simp [inR]⟩⟩, by omega⟩, ⟨h, by omega⟩, fun h3 => absurd trivial h3, fun _ => ⟨fun h3 => h3, fun _ => ⟨fun _ => ⟨by omega, (fun h3 => by simp at h3), fun _ => ⟨(fun h3 => by cases h3), fun _ => main (by omega)⟩⟩, (fun h3 => by cases h3)⟩⟩⟩, fun _ => trivial⟩
 · obtain ⟨c, j⟩ := x
   have hL := loop11m n p b j h hb (bodyR 0 xr11 R11)
   refine of_eq (q := (fun (o : Int) => (fun (k : Nat) => (fun (i : Int) => (fun (m : Int) => (fun (g : List Int) => (fun (f : List Int) => (fun (l : Bool) => (fun (e : Prop) => (fun (h : Prop) => (fun (a : Prop) => (fun (d : Prop) => e /\ e /\ (i < 2 -> e /\ e /\ (((f.length < 1000000 /\ okP c) /\ List.length c < 1000000000000000) /\ e) /\ e /\ e /\ e /\ e /\ e /\ e /\ e /\ e /\ ((cxOk n p /\ List.length c < 1000000000000000) /\ e) /\ e /\ e /\ e /\ e /\ e /\ e /\ e /\ e /\ e /\ e /\ (¬o = o -> e /\ e /\ e /\ e /\ e /\ h) /\ (¬¬o = o -> e /\ e /\ e /\ e /\ e /\ ((lfB (mk (isF p)) c != l) = true -> e /\ e /\ e /\ h) /\ ((lfB (mk (isF p)) c != l) = false -> e /\ e /\ (l = true -> e /\ e /\ (g.length + 1 <= 1000000000000000 /\ e) /\ e /\ e /\ e /\ e /\ ((!decide (g = rlR f c)) = true -> e /\ h) /\ ((!decide (g = rlR f c)) = false -> d)) /\ (l = false -> e /\ e /\ e /\ d)))) /\ (¬i < 2 -> ∃ (y : Unit), e /\ e /\ e)) (e /\ e /\ e /\ ((!l) = true -> e /\ e /\ e /\ e /\ e /\ (¬(g.length : Int) = o -> h) /\ (¬¬(g.length : Int) = o -> a)) /\ ((!l) = false -> e /\ e /\ a))) (e /\ e /\ e /\ e /\ LoopOK X11r L11_4 (hn11 n p b j) (bodyR (0 : Nat) xr11 R11) /\ ((∃ (y : Nat), (ka11 b y /\ (nlK p b y).snd = []) /\ (b = b /\ n = n /\ p = p /\ f = f /\ i = i /\ e /\ f = (nlK p b y).fst /\ o = (y : Int) /\ e) /\ e) ∨ ∃ (y : Nat), ka11 b y /\ (b = b /\ n = n /\ p = p /\ f = f /\ i = i /\ False /\ f = (nlK p b y).fst /\ o = (y : Int) /\ e) /\ False) /\ (∀ (y : Unit), nlE p b = [] -> e /\ e /\ e /\ inR .i64 m /\ e /\ ((∃ (y : Nat), (y <= k /\ k - y < k - j) /\ (b = b /\ n = n /\ p = p /\ f = f /\ e /\ m = (y : Int) /\ e) /\ e) ∨ ∃ (y : LP × Nat), ((y.snd <= k /\ kr11 y.fst) /\ k - y.snd < k - j) /\ (b = b /\ n = n /\ p = p /\ f = f /\ False /\ m = (y.snd : Int) /\ e) /\ False)) /\ (∀ (y : Unit), e -> e /\ e /\ e /\ inR .i64 m /\ e /\ ((∃ (y : Nat), (y <= k /\ k - y < k - j) /\ (b = b /\ n = n /\ p = p /\ f = f /\ False /\ m = (y : Int) /\ e) /\ e) ∨ ∃ (y : LP × Nat), ((y.snd <= k /\ kr11 y.fst) /\ k - y.snd < k - j) /\ (b = b /\ n = n /\ p = p /\ f = f /\ e /\ m = (y.snd : Int) /\ e) /\ nlE p b = y.fst /\ e)) /\ e)) (e /\ e /\ (false = true /\ e) /\ e)) (True)) (rlB f c)) (fcs p)) (lfR (mk (isF p)) c)) (i + 1)) ((j : Int))) ((2 : Nat))) ((0 : Int))) (by kernel_rfl) ?_
   simp only [zz]
   obtain ⟨hj, hc⟩ : j <= 2 /\ kr11 c := hx
   obtain ⟨c1, c2⟩ := hc
   have hE := nlE_ok h b
   have hf := fcs_len p
   have eR := leftR_eq (mk_length (isF p)) c
   have eB := leftB_eq (mk_length (isF p)) c
   rw [<- fcs_mk] at eR eB
   have hl := lfR_len (mk (isF p)) c
   have hn : lfB (mk (isF p)) c = false -> lfR (mk (isF p)) c = [] := fun h3 => by unfold lfR; rw [h3]; try rfl
   rw [eR, eB]
   generalize lfB (mk (isF p)) c = B at hn |-
   generalize lfR (mk (isF p)) c = L at hn hl |-
   have main : j < 2 -> LoopOK X11r L11_4 (hn11 n p b j) (bodyR 0 xr11 R11) /\ (∃ y, (ka11 b y /\ (nlK p b y).2 = []) /\ fcs p = (nlK p b y).1 /\ 0 = (y : Int)) /\
       (∀ y : PUnit, nlE p b = [] -> inR .i64 ((j : Int) + 1) /\ ∃ y : Nat, (y <= 2 /\ 2 - y < 2 - j) /\ (j : Int) + 1 = y) /\
       ∀ y : PUnit, True -> inR .i64 ((j : Int) + 1) /\ ∃ y : LS, ((y.2 <= 2 /\ kr11 y.1) /\ 2 - y.2 < 2 - j) /\ (j : Int) + 1 = y.2 /\ nlE p b = y.1 := fun h2 =>
     ⟨hL, ⟨0, ⟨⟨Nat.zero_le _, Nat.zero_le _⟩, rfl⟩, rfl, rfl⟩, fun _ _ => ⟨by simp only [inR]; omega, j + 1, by omega, by omega⟩, fun _ _ => ⟨by simp only [inR]; omega, (nlE p b, j + 1), ⟨⟨by simp only; omega, hE⟩, by simp only; omega⟩, by simp only; omega, rfl⟩⟩
   refine ⟨fun h2 => ⟨⟨⟨by omega, c1⟩, by omega⟩, ⟨h, by omega⟩, fun h3 => absurd trivial h3, fun _ => ⟨(fun h3 => by simp at h3), fun _ => ⟨fun h3 => ⟨by omega, (fun h4 => by simp at h4), fun _ => ⟨(fun h5 => by rw [h3] at h5; cases h5), fun _ => main (by omega)⟩⟩, fun h3 => ⟨fun h4 => ⟨(fun h5 => by rw [hn h3] at h5; exact absurd rfl h5), fun _ => main (by omega)⟩, fun _ => main (by omega)⟩⟩⟩⟩, fun _ => trivial⟩
end Go.Am.Sh

/- Shells: the law of the collapses. -/
namespace Go.Am
/-- Bools that are known. -/
def litB : AV -> AV
 | .bool true => .tt
 | .bool false => .ff
 | a => a
theorem TR.litB {E : Env} {I : Nat -> Option Inf} {F : Nat -> Prop} {w : World} : ∀ {x : AV} {u : Value}, TR E I F w x u -> TR E I F w (litB x) u
 | .bool true, _, h => h
 | .bool false, _, h => h
 | _, _, h => by
   unfold Am.litB
   split <;> exact h
theorem GCall.lit {P : Program} {gl : Nat -> Option ((t : Ty) × t.D)} {f : FuncId} {sep : Bool} {args res : List AV} {ob0 ob1 : List Ob} (h : GCall P gl f sep args ob0 res ob1) : GCall P gl f sep args ob0 (res.map litB) ob1 := by
 intro E F F0 w a h1 h2 h3 hr
 refine (h E F F0 w a h1 h2 h3 hr).mono ?_
 rintro e w' ⟨E', F', a', he, R⟩
 refine ⟨E', F', a', he, R.retm (by simp) fun i y hy => ?_⟩
 rw [List.getElem?_map] at hy
 cases hx : res[i]? with
 | none => rw [hx] at hy; cases hy
 | some x =>
   rw [hx] at hy
   injection hy with hy
   subst hy
   exact ⟨x, rfl, fun u hu => TR.litB hu⟩
end Go.Am
namespace Go.Am.Sh
open Go Go.Am Go.Proofs
def y46 : Entry Try.prog gl := entry2 46 ⟨Try.f46, by kernel_rfl, by kernel_rfl, by kernel_rfl⟩ I64 SI (fun (n : Int) p => cxOk n p /\ colR p = true) true (fun _ p => [.sl P2 (colP p), .tt, .int .i64 0]) (fun _ _ => []) (fun n p h => by
 have := call46 n p h.1
 rw [h.2] at this
 exact this.lit)
def n46 : Entry Try.prog gl := entry2 46 ⟨Try.f46, by kernel_rfl, by kernel_rfl, by kernel_rfl⟩ I64 SI (fun (n : Int) p => cxOk n p /\ colR p = false) true (fun _ _ => [.sl P2 [], .ff, .int .i64 0]) (fun _ _ => []) (fun n p h => by
 have := call46 n p h.1
 rw [h.2, col_no h.2] at this
 exact this.lit)
def y47 : Entry Try.prog gl := entry2 47 ⟨Try.f47, by kernel_rfl, by kernel_rfl, by kernel_rfl⟩ I64 SI (fun (n : Int) p => cxOk n p /\ colR p = true) true (fun _ _ => [.tt]) (fun _ _ => []) (fun n p h => by
 have := call47 n p h.1
 rw [<- col_tc h.1, h.2] at this
 exact this.lit)
def n47 : Entry Try.prog gl := entry2 47 ⟨Try.f47, by kernel_rfl, by kernel_rfl, by kernel_rfl⟩ I64 SI (fun (n : Int) p => cxOk n p /\ colR p = false) true (fun _ _ => [.ff]) (fun _ _ => []) (fun n p h => by
 have := call47 n p h.1
 rw [<- col_tc h.1, h.2] at this
 exact this.lit)
def y48 : Entry Try.prog gl := entry2 48 ⟨Try.f48, by kernel_rfl, by kernel_rfl, by kernel_rfl⟩ SI (.sl P2) (fun l c => (((l : List Int).length < 1000000 /\ okP c) /\ (c : LP).length < 1000000000000000) /\ rlB l c = true) false (fun l c => [.sl I64 (rlR l c), .tt]) (fun _ _ => []) (fun l c h => by
 have := call48 l c h.1
 rw [h.2] at this
 exact this.lit)
def y49 : Entry Try.prog gl := entry1 49 ⟨Try.f49, by kernel_rfl, by kernel_rfl, by kernel_rfl⟩ SI (fun l => okL l /\ oneB l = true) true (fun _ => [.tt]) (fun _ => []) (fun l h => by
 have := call49 l h.1
 rw [h.2] at this
 exact this.lit)
def y50 : Entry Try.prog gl := entry3 50 ⟨Try.f50, by kernel_rfl, by kernel_rfl, by kernel_rfl⟩ I64 SI (.sl P2) (fun (n : Int) p l => (cxOk n p /\ (l : LP).length < 1000000000000000) /\ lfB (mk (isF p)) l = true) false (fun _ p l => [.sl I64 (lfR (mk (isF p)) l), .tt, .int .i64 0]) (fun _ _ _ => []) (fun n p l h => by
 have := call50 n p l h.1
 rw [h.2] at this
 exact this.lit)
def y23 : Entry Try.prog gl := entry2 23 ⟨Try.f23, by kernel_rfl, by kernel_rfl, by kernel_rfl⟩ SI SI (fun a b => (a : List Int).length < 1000000000000000 /\ a = b) true (fun _ _ => [.tt]) (fun _ _ => []) (fun a b h => by
 have := call23 a b h.1
 rw [decide_eq_true h.2] at this
 exact this.lit)
def hs11 (t : Nat) : Bool := Nat.beq t 177 || Nat.beq t 191
noncomputable abbrev X11y : Cy := Xh [e14, f35, y46, y47, y48, y49, y50, y23, e19] hs11 (drOf [(30, 31)])
noncomputable abbrev X11n' : Cy := Xh [e14, f35, n46, n47, e19] hs11 (drOf [(30, 31)])
theorem rl_count (l : List Int) (c : LP) : ∀ k, (∀ i, i < k -> rlC l c i = true) -> (rlA l c k).length + 2 * k = l.length
 | 0, _ => rfl
 | k + 1, h => by
   have h1 := rl_count l c k fun i hi => h i (by omega)
   have h2 := clB_len (h k (by omega))
   rw [rlA]
   omega
structure col11 (p : List Int) : Prop where
 b : lfB (mk (isF p)) (colP p) = true
 r : rlB (fcs p) (colP p) = true
 e : rlR (fcs p) (colP p) = lfR (mk (isF p)) (colP p)
 one : oneB (rlR (fcs p) (colP p)) = true
 ok : okP (colP p)
 len : (colP p).length <= 32
theorem col_11 {n : Int} {p : List Int} (h : cxOk n p) (hc : colR p = true) : col11 p := by
 obtain ⟨h1, h2⟩ := col_yes h hc
 have eR := leftR_eq (mk_length (isF p)) (colP p)
 have eB := leftB_eq (mk_length (isF p)) (colP p)
 rw [<- fcs_mk] at eR eB
 rw [h1] at eB
 refine ⟨h1, eB, eR, by rw [eR]; exact h2, fun i => ?_, ?_⟩
 · rcases Nat.lt_or_ge i (colP p).length with hi | hi
   · have hb : ∀ i, i < (colP p).length -> lfC (mk (isF p)) (colP p) i = true := of_decide_eq_true h1
     have hP : canP _ _ _ := of_decide_eq_true (hb i hi)
     exact ⟨by simp only [inR]; have := hP.1; omega, by simp only [inR]; have := hP.2.1; omega⟩
   · rw [List.getD_eq_getElem?_getD, List.getElem?_eq_none hi]
     exact ⟨by show inR .i64 (0 : Int); simp only [inR]; omega, by show inR .i64 (0 : Int); simp only [inR]; omega⟩
 · have hr : ∀ i, i < (colP p).length -> rlC (fcs p) (colP p) i = true := of_decide_eq_true eB
   have := rl_count (fcs p) (colP p) (colP p).length hr
   have := fcs_len p
   omega
theorem tk12_ok {b : LP} (h : okP b) : kr11 (tk12 b 12) := by
 refine ⟨fun i => ?_, by unfold tk12; rw [List.length_take]; omega⟩
 unfold tk12
 rw [List.getD_eq_getElem?_getD, List.getElem?_take]
 split
 · rw [<- List.getD_eq_getElem?_getD]; exact h i
 · exact ⟨by show inR .i64 (0 : Int); simp only [inR]; omega, by show inR .i64 (0 : Int); simp only [inR]; omega⟩
theorem call11y (n : Int) (l : List Int) (b : LP) (hl : l.length < 1000000000000000) (hb : b.length < 1000000000000000) (ho : okP b) (hc : colR (tmP n l) = true) : GCall Try.prog gl 11 true [.int .i64 n, .sl I64 l, .sl P2 b] [] [.tt] [] := by
 have hx := tm_cx n l
 have hA := fun R => loop11a [] (tmN n) (tmP n l) b hb R
 have hR := loop11r (tmN n) (tmP n l) b hx hb
 refine gcall_of (X := X11y) ((Xh_ok _ _ _)) (f := 11) (fn := Try.f11) (c := bodyOf Try.f11) (by kernel_rfl) (by kernel_rfl) (view := false) (rvs := [.tmp 6]) (by kernel_rfl) (H := (fun id => some (match id with | 0 => ha11 (tmN n) (tmP n l) b | _ => hr11 (tmN n) (tmP n l) b))) 300 (by kernel_rfl) ?_
 refine of_eq (q := (fun (h : Int) => (fun (d : Int) => (fun (c : Prop) => (fun (i : Prop) => (fun (g : Prop) => (fun (a : List Int) => (fun (m : Prop) => (fun (j : Prop) => (fun (f : LP) => (fun (e : List Int) => c /\ c /\ c /\ (l.length + 1 <= 1000000000000000 /\ c) /\ c /\ c /\ c /\ c /\ c /\ c /\ c /\ ((numOk d /\ ((1 : Nat) <= a.length /\ a.length <= 10) /\ ∀ (k : Nat), k < a.length -> goodAt d a k) /\ c) /\ c /\ c /\ c /\ m /\ c /\ c /\ c /\ c /\ c /\ c /\ c /\ c /\ c /\ c /\ (¬h = h -> c /\ c /\ g) /\ (¬¬h = h -> c /\ c /\ c /\ m /\ c /\ c /\ c /\ (false = true -> g) /\ (false = false -> c /\ c /\ c /\ c /\ c /\ c /\ c /\ c /\ ((((e.length < 1000000 /\ okP f) /\ List.length f < 1000000000000000) /\ rlB e f = true) /\ c) /\ c /\ c /\ c /\ c /\ c /\ c /\ c /\ c /\ c /\ ((okL (rlR e f) /\ oneB (rlR e f) = true) /\ c) /\ c /\ c /\ c /\ c /\ c /\ (((cxOk d a /\ List.length f < 1000000000000000) /\ lfB (mk (isF a)) f = true) /\ c) /\ c /\ c /\ c /\ c /\ c /\ c /\ c /\ c /\ c /\ c /\ (¬h = h -> c /\ c /\ g) /\ (¬¬h = h -> c /\ c /\ c /\ c /\ c /\ c /\ (((lfR (mk (isF a)) f).length < 1000000000000000 /\ lfR (mk (isF a)) f = rlR e f) /\ c) /\ c /\ c /\ c /\ c /\ LoopOK (X []) L11_0 (ha11 d a b) (RetR X11y true false [ResultVar.tmp (6 : Tmp)] [AV.tt] []) /\ ((∃ (y : Nat), (ka11 b y /\ tk12 b y = []) /\ (b = b /\ d = d /\ a = a /\ e = e /\ c /\ h = (y : Int) /\ c) /\ c) ∨ ∃ (y : Nat), ka11 b y /\ (b = b /\ d = d /\ a = a /\ e = e /\ False /\ h = (y : Int) /\ c) /\ False) /\ (∀ (y : Unit), tk12 b (12 : Nat) = [] -> c /\ j /\ ((∃ (y : Nat), y <= 2 /\ (b = b /\ d = d /\ a = a /\ e = e /\ c /\ h = (y : Int) /\ c) /\ c) ∨ ∃ (y : LP × Nat), (y.snd <= 2 /\ kr11 y.fst) /\ (b = b /\ d = d /\ a = a /\ e = e /\ False /\ h = (y.snd : Int) /\ c) /\ False) /\ i) /\ (∀ (y : Unit), c -> c /\ j /\ ((∃ (y : Nat), y <= 2 /\ (b = b /\ d = d /\ a = a /\ e = e /\ False /\ h = (y : Int) /\ c) /\ c) ∨ ∃ (y : LP × Nat), (y.snd <= 2 /\ kr11 y.fst) /\ (b = b /\ d = d /\ a = a /\ e = e /\ c /\ h = (y.snd : Int) /\ c) /\ tk12 b (12 : Nat) = y.fst /\ c) /\ i) /\ c)))) (fcs a)) (colP a)) (LoopOK X11r L11_2 (hr11 d a b) R11)) ((cxOk d a /\ colR a = true) /\ c)) (tmP n l)) (c /\ c /\ c /\ (false = true /\ c) /\ c)) ((∀ (y : Unit), c -> (c /\ c) /\ c /\ c /\ (true = true /\ c) /\ c) /\ c)) (True)) (tmN n)) ((0 : Int))) (by kernel_rfl) ?_
 simp only [zz]
 have hC := col_11 hx hc
 have hlen := hC.len
 have hf := fcs_len (tmP n l)
 have hl2 := lfR_len (mk (isF (tmP n l))) (colP (tmP n l))
 have h3 : ∀ p : Prop, ¬ True -> p := fun p h => absurd trivial h
 exact ⟨by omega, hx, ⟨hx, hc⟩, h3 _, fun _ => ⟨⟨hx, hc⟩, id, fun _ => ⟨⟨⟨⟨by omega, hC.ok⟩, by omega⟩, hC.r⟩, ⟨by rw [hC.e]; unfold lfR; rw [if_pos hC.b]; exact trueN_ok _, hC.one⟩, ⟨⟨hx, by omega⟩, hC.b⟩, h3 _, fun _ => ⟨⟨by omega, hC.e.symm⟩, hA _, ⟨0, ⟨⟨Nat.zero_le _, Nat.zero_le _⟩, rfl⟩, rfl⟩, fun _ _ => ⟨hR, ⟨0, Nat.zero_le _, rfl⟩, fun _ _ => trivial⟩, fun _ _ => ⟨hR, ⟨(tk12 b 12, 0), ⟨Nat.zero_le _, tk12_ok ho⟩, rfl, rfl⟩, fun _ _ => trivial⟩⟩⟩⟩⟩
theorem call11n (n : Int) (l : List Int) (b : LP) (hl : l.length < 1000000000000000) (hb : b.length < 1000000000000000) (ho : okP b) (hc : colR (tmP n l) = false) : GCall Try.prog gl 11 true [.int .i64 n, .sl I64 l, .sl P2 b] [] [.tt] [] := by
 have hx := tm_cx n l
 have hA := fun R => loop11a [] (tmN n) (tmP n l) b hb R
 have hR := loop11r (tmN n) (tmP n l) b hx hb
 refine gcall_of (X := X11n') ((Xh_ok _ _ _)) (f := 11) (fn := Try.f11) (c := bodyOf Try.f11) (by kernel_rfl) (by kernel_rfl) (view := false) (rvs := [.tmp 6]) (by kernel_rfl) (H := (fun id => some (match id with | 0 => ha11 (tmN n) (tmP n l) b | _ => hr11 (tmN n) (tmP n l) b))) 300 (by kernel_rfl) ?_
 refine of_eq (q := (fun (f : Int) => (fun (d : Int) => (fun (c : Prop) => (fun (h : Prop) => (fun (g : Prop) => (fun (a : List Int) => (fun (j : Prop) => (fun (i : Prop) => (fun (e : Prop) => c /\ c /\ c /\ (l.length + 1 <= 1000000000000000 /\ c) /\ c /\ c /\ c /\ c /\ c /\ c /\ c /\ ((numOk d /\ ((1 : Nat) <= a.length /\ a.length <= 10) /\ ∀ (k : Nat), k < a.length -> goodAt d a k) /\ c) /\ c /\ c /\ c /\ j /\ c /\ c /\ c /\ c /\ c /\ c /\ c /\ c /\ c /\ c /\ (¬f = f -> c /\ c /\ c /\ g) /\ (¬¬f = f -> c /\ c /\ c /\ j /\ c /\ c /\ c /\ (false = true -> c /\ g) /\ (false = false -> c /\ c /\ c /\ c /\ c /\ c /\ c /\ c /\ (¬f = f -> g) /\ (¬¬f = f -> c /\ c /\ c /\ LoopOK (X []) L11_0 (ha11 d a b) (RetR X11n' true false [ResultVar.tmp (6 : Tmp)] [AV.tt] []) /\ ((∃ (y : Nat), (ka11 b y /\ tk12 b y = []) /\ (b = b /\ d = d /\ a = a /\ e /\ c /\ f = (y : Int) /\ c) /\ c) ∨ ∃ (y : Nat), ka11 b y /\ (b = b /\ d = d /\ a = a /\ e /\ False /\ f = (y : Int) /\ c) /\ False) /\ (∀ (y : Unit), tk12 b (12 : Nat) = [] -> c /\ i /\ ((∃ (y : Nat), y <= 2 /\ (b = b /\ d = d /\ a = a /\ e /\ c /\ f = (y : Int) /\ c) /\ c) ∨ ∃ (y : LP × Nat), (y.snd <= 2 /\ kr11 y.fst) /\ (b = b /\ d = d /\ a = a /\ e /\ False /\ f = (y.snd : Int) /\ c) /\ False) /\ h) /\ (∀ (y : Unit), c -> c /\ i /\ ((∃ (y : Nat), y <= 2 /\ (b = b /\ d = d /\ a = a /\ e /\ False /\ f = (y : Int) /\ c) /\ c) ∨ ∃ (y : LP × Nat), (y.snd <= 2 /\ kr11 y.fst) /\ (b = b /\ d = d /\ a = a /\ e /\ c /\ f = (y.snd : Int) /\ c) /\ tk12 b (12 : Nat) = y.fst /\ c) /\ h) /\ c)))) (fcs a = fcs a)) (LoopOK X11r L11_2 (hr11 d a b) R11)) ((cxOk d a /\ colR a = false) /\ c)) (tmP n l)) (c /\ c /\ (false = true /\ c) /\ c)) ((∀ (y : Unit), c -> (c /\ c) /\ c /\ c /\ (true = true /\ c) /\ c) /\ c)) (True)) (tmN n)) ((0 : Int))) (by kernel_rfl) ?_
 simp only [zz]
 have h3 : ∀ p : Prop, ¬ True -> p := fun p h => absurd trivial h
 exact ⟨by omega, hx, ⟨hx, hc⟩, h3 _, fun _ => ⟨⟨hx, hc⟩, id, fun _ => ⟨h3 _, fun _ => ⟨hA _, ⟨0, ⟨⟨Nat.zero_le _, Nat.zero_le _⟩, rfl⟩, rfl⟩, fun _ _ => ⟨hR, ⟨0, Nat.zero_le _, rfl⟩, fun _ _ => trivial⟩, fun _ _ => ⟨hR, ⟨(tk12 b 12, 0), ⟨Nat.zero_le _, tk12_ok ho⟩, rfl, rfl⟩, fun _ _ => trivial⟩⟩⟩⟩⟩
theorem okP_of {c : LP} (h : Rng (.sl P2) c) : okP c := fun i => by
 simp only [Rng] at h
 rcases Nat.lt_or_ge i c.length with hi | hi
 · have e : c.getD i (0, 0) = c[i] := by rw [List.getD_eq_getElem?_getD, List.getElem?_eq_getElem hi]; try rfl
   rw [e]; exact h i hi
 · rw [List.getD_eq_getElem?_getD, List.getElem?_eq_none hi]
   exact ⟨by show inR .i64 (0 : Int); simp only [inR]; omega, by show inR .i64 (0 : Int); simp only [inR]; omega⟩
theorem call11 (n : Int) (l : List Int) (b : LP) (h : l.length < 1000000000000000 /\ b.length < 1000000000000000) (ho : okP b) : GCall Try.prog gl 11 true [.int .i64 n, .sl I64 l, .sl P2 b] [] [.tt] [] := by
 cases hc : colR (tmP n l) with
 | true => exact call11y n l b h.1 h.2 ho hc
 | false => exact call11n n l b h.1 h.2 ho hc
end Go.Am.Sh

/- Shells: from the laws' contracts to the given statements: what all laws share. -/
namespace Go.Proofs.Ytfpoonbcnabihaa
open Go Go.ChangeShapes Go.WideShapes Go.ChangeAt Go.RowKit Go.Am Go.Am.Sh
theorem own : ownKnob Try.prog.godebug = none := by kernel_rfl
theorem laidOut : laidOutB Try.prog = true := by kernel_rfl
theorem u3 : Try.prog.underlying 3 = some (.int .i64) := by kernel_rfl
theorem u4 : Try.prog.underlying 4 = some .bool := by kernel_rfl
theorem u22 : Try.prog.underlying 22 = some (.slice 3) := by kernel_rfl
theorem tyOk3 : TyOk Try.prog 3 I64 := u3
theorem tyOk22 : TyOk Try.prog 22 (.sl I64) := ⟨3, u22, u3, by kernel_rfl, by decide, of_decide_eq_true (by kernel_rfl)⟩
theorem u56 : Try.prog.underlying 56 = some (.slice 62) := by kernel_rfl
theorem u62 : Try.prog.underlying 62 = some (.array 2 3) := by kernel_rfl
theorem tyOk62 : TyOk Try.prog 62 P2 := ⟨3, u62, u3, by kernel_rfl, by kernel_rfl⟩
theorem tyOk56 : TyOk Try.prog 56 (.sl P2) := ⟨62, u56, tyOk62, by kernel_rfl, by decide, of_decide_eq_true (by kernel_rfl)⟩
theorem reach_le {l : List Nat} (h : l.all (fun x => decide (x <= reachBytes)) = true) : ∀ n ∈ l, n <= 140737488355328 := fun n hn => by
 have := of_decide_eq_true (List.all_eq_true.mp h n hn)
 have e : reachBytes = 140737488351232 := rfl
 omega
theorem glob_of {W : World} : GlobOk gl (fun b => b < W.heap.size) W := fun g p hp => by cases hp
end Go.Proofs.Ytfpoonbcnabihaa
