/- Part B5 of the proof that the law named in the last file returns true at every input and leaves its arguments as they were; no condition of its own. -/
import Derived.Test.YtlfigncfoiofgaaB4
import Derived.Test.YtlfigncfoiofgaaA2
import Derived.Test.YtlfigncfoiofgaaB3
import Derived.Test.YtlfigncfoiofgaaRows
import Derived.WalkKit
import Derived.ProofKit
import Derived.OpenShut
import Derived.SizedLaws
import Derived.ChangeOld
import Derived.Below
import Derived.Stop.Joined
set_option linter.unusedSimpArgs false
set_option linter.unusedVariables false
/- Orders, plain: what the drawn lines draw, and that lines are lines. -/
namespace Go.Am.Or
open Go Go.Am Go.Proofs
/-- A transitive tournament. -/
structure Tt (n : Nat) (t : RF) : Prop where
 ir : ∀ x, x < n → t x x = false
 tr : ∀ x y z, x < n → y < n → z < n → t x y = true → t y z = true → t x z = true
 to : ∀ x y, x < n → y < n → x ≠ y → t x y = true ∨ t y x = true
theorem cnt_mon2 {t : RF} {i j : Nat} : ∀ k, (∀ x, x < k → t x i = true → t x j = true) → cnt t i k ≤ cnt t j k
 | 0, _ => Nat.le_refl _
 | k + 1, h => by
   have ih := cnt_mon2 k fun x hx => h x (by omega)
   rw [cnt, cnt]
   have := h k (by omega)
   split
   · rename_i h1; rw [if_pos (this h1)]; omega
   · split <;> omega
theorem cnt_strict {t : RF} {i j m : Nat} : ∀ k, m < k → (∀ x, x < k → t x i = true → t x j = true) → t m i = false → t m j = true → cnt t i k < cnt t j k
 | 0, hm, _, _, _ => absurd hm (Nat.not_lt_zero _)
 | k + 1, hm, h, h1, h2 => by
   rw [cnt, cnt]
   by_cases e : m = k
   · subst e
     have := cnt_mon2 (t := t) (i := i) (j := j) m fun x hx => h x (by omega)
     rw [if_neg (by rw [h1]; decide), if_pos h2]; omega
   · have := cnt_strict k (by omega) (fun x hx => h x (by omega)) h1 h2
     have h3 := h k (by omega)
     split
     · rename_i h1; rw [if_pos (h3 h1)]; omega
     · split <;> omega
theorem Tt.lt {n : Nat} {t : RF} (h : Tt n t) {a b : Nat} (ha : a < n) (hb : b < n) (hab : t a b = true) : cnt t a n < cnt t b n :=
 cnt_strict n ha (fun x hx h1 => h.tr x a b hx ha hb h1 hab) (h.ir a ha) hab
theorem Tt.iff {n : Nat} {t : RF} (h : Tt n t) {a b : Nat} (ha : a < n) (hb : b < n) (hne : a ≠ b) : cnt t a n < cnt t b n ↔ t a b = true := by
 refine ⟨fun h1 => ?_, h.lt ha hb⟩
 rcases h.to a b ha hb hne with h2 | h2
 · exact h2
 · have := h.lt hb ha h2; omega
theorem Tt.ne {n : Nat} {t : RF} (h : Tt n t) {a b : Nat} (ha : a < n) (hb : b < n) (hne : a ≠ b) : cnt t a n ≠ cnt t b n := by
 rcases h.to a b ha hb hne with h2 | h2
 · have := h.lt ha hb h2; omega
 · have := h.lt hb ha h2; omega
theorem Tt.get {n : Nat} {t : RF} (h : Tt n t) : ∀ i, i ≤ n → ∀ a, a < i → (lnL t n i).getD (cnt t a n) 0 = a
 | 0, _, a, ha => absurd ha (Nat.not_lt_zero _)
 | i + 1, hi, a, ha => by
   have h1 := cnt_lt (h.ir i (by omega)) (show i < n by omega)
   rw [lnL, getD_set (by rw [lnL_len]; exact h1)]
   by_cases e : a = i
   · subst e; rw [if_pos rfl]
   · rw [if_neg (h.ne (by omega) (by omega) e), h.get i (by omega) a (by omega)]
theorem Tt.sur {n : Nat} {t : RF} (h : Tt n t) {p : Nat} (hp : p < n) : ∃ a, a < n ∧ cnt t a n = p := Classical.byContradiction fun hx => by
 have := nodup_len n (p :: (List.range n).map fun a => cnt t a n) (by
   rw [List.nodup_cons]
   refine ⟨fun hm => ?_, ?_⟩
   · obtain ⟨a, ha, e⟩ := List.mem_map.mp hm
     exact hx ⟨a, List.mem_range.mp ha, e⟩
   · rw [List.Nodup, List.pairwise_map]
     exact List.Pairwise.imp_of_mem (fun {x y} hx hy hne => h.ne (List.mem_range.mp hx) (List.mem_range.mp hy) hne) (List.nodup_range (n := n))) (fun x hx => by
   rcases List.mem_cons.mp hx with rfl | hx
   · exact hp
   · obtain ⟨a, ha, e⟩ := List.mem_map.mp hx
     have := cnt_lt (h.ir a (List.mem_range.mp ha)) (List.mem_range.mp ha)
     omega)
 rw [List.length_cons, List.length_map, List.length_range] at this
 omega
theorem Tt.pl {n : Nat} {t : RF} (h : Tt n t) : plB n (lnL t n n) = true := by
 have hl := lnL_len t n n
 have hg : ∀ p, p < n → ∃ a, a < n ∧ cnt t a n = p ∧ (lnL t n n).getD p 0 = a := fun p hp => by
   obtain ⟨a, h1, h2⟩ := h.sur hp
   exact ⟨a, h1, h2, by rw [← h2]; exact h.get n (Nat.le_refl _) a h1⟩
 refine pl_of_nodup ?_ (fun x hx => ?_) hl
 · rw [List.Nodup, List.pairwise_iff_getElem]
   intro i j hi hj hij e
   obtain ⟨a, a1, a2, a3⟩ := hg i (by omega)
   obtain ⟨b, b1, b2, b3⟩ := hg j (by omega)
   rw [getD_lt hi] at a3
   rw [getD_lt hj] at b3
   have : a = b := by omega
   subst this
   omega
 · obtain ⟨i, hi, e⟩ := List.getElem_of_mem hx
   obtain ⟨a, a1, a2, a3⟩ := hg i (by omega)
   rw [getD_lt hi, e] at a3
   omega
theorem bfK_at {l : List Int} (hl : l.Nodup) {i j : Nat} (hi : i < l.length) (hj : j < l.length) (hne : i ≠ j) : ∀ k, k ≤ l.length → l.length - k ≤ i → l.length - k ≤ j → bfK l (l.getD i 0) (l.getD j 0) k false = decide (i < j)
 | 0, _, h, _ => absurd h (by omega)
 | k + 1, hk, h1, h2 => by
   have inj : ∀ {p q : Nat}, p < l.length → q < l.length → l.getD p 0 = l.getD q 0 → p = q := fun {p q} hp hq e => by
     rw [getD_lt hp, getD_lt hq] at e
     exact (List.getElem_inj hl).mp e
   rw [bfK]
   by_cases e1 : l.getD (l.length - (k + 1)) 0 = l.getD i 0
   · have := inj (by omega) hi e1
     rw [if_pos e1, decide_eq_true (by omega)]
   · rw [if_neg e1]
     have n1 : l.length - (k + 1) ≠ i := fun e => e1 (by rw [e])
     by_cases e2 : l.getD (l.length - (k + 1)) 0 = l.getD j 0
     · have := inj (by omega) hj e2
       rw [if_pos e2, decide_eq_false (by omega)]
     · have n2 : l.length - (k + 1) ≠ j := fun e => e2 (by rw [e])
       rw [if_neg e2, bfK_at hl hi hj hne k (by omega) (by omega) (by omega)]
theorem bf_iff {n : Nat} {l : List Int} (h : plB n l = true) {a b : Nat} (ha : a < n) (hb : b < n) (hne : a ≠ b) : bfB l a b = decide ((plR n l).getD a 0 < (plR n l).getD b 0) := by
 obtain ⟨h1, h2, h3⟩ := pl_nodup h
 obtain ⟨i, i1, i2, i3⟩ := pl_at h ha
 obtain ⟨j, j1, j2, j3⟩ := pl_at h hb
 have := bfK_at h1 (i := i) (j := j) (by omega) (by omega) (fun e => hne (by subst e; omega)) l.length (Nat.le_refl _) (by omega) (by omega)
 rw [i2, j2] at this
 rw [bfB, this, i3, j3]
 exact decide_eq_decide.mpr ⟨fun h => by omega, fun h => by omega⟩
theorem Tt.bf {n : Nat} {t : RF} (h : Tt n t) {a b : Nat} (ha : a < n) (hb : b < n) (hne : a ≠ b) : bfB (lnL t n n) a b = t a b := by
 have hl := lnL_len t n n
 have h1 := bfK_at (pl_nodup h.pl).1 (i := cnt t a n) (j := cnt t b n) (by rw [hl]; exact cnt_lt (h.ir a ha) ha) (by rw [hl]; exact cnt_lt (h.ir b hb) hb) (h.ne ha hb hne) n (by omega) (by omega) (by omega)
 rw [h.get n (Nat.le_refl _) a ha, h.get n (Nat.le_refl _) b hb] at h1
 rw [bfB, hl, h1, Bool.eq_iff_iff, decide_eq_true_eq, h.iff ha hb hne]
theorem isOr.sw {n : Nat} {f r : RF} (h : isOr n f r) (hg : gr n f) : isOr n f (sw r) :=
 ⟨trB_sw h.tr, fun x y hx hy => (h.of x y hx hy).trans or_comm, fun x y hxy => by rw [hg.sy]; exact h.oi y x hxy⟩
theorem tr2 {r : RF} (h : trB r = true) {x y : Nat} (hx : x < 7) (hy : y < 7) (hxy : r x y = true) : r y x = false ∧ ∀ z, z < 7 → r y z = true → r x z = true :=
 of_decide_eq_true h x hx y hy hxy
theorem ot_iff {n : Nat} {f : RF} {x y : Nat} : otR n f x y = true ↔ (x < n ∧ y < n) ∧ x ≠ y ∧ f x y = false := by
 unfold otR; simp
/-- Two orders of a graph and of the other edges, joined. -/
theorem tour {n : Nat} {f r s : RF} (hg : gr n f) (hr : isOr n f r) (hs : isOr n (otR n f) s) : Tt n (jo s r) := by
 have hn := hg.hn
 have hgo := gr_ot hg
 have key : ∀ {f r s : RF}, gr n f → isOr n f r → (∀ x y, s x y = true → otR n f x y = true) → trB s = true → (∀ x y, x < 7 → y < 7 → (otR n f x y = true → s x y = true ∨ s y x = true)) → ∀ x y z, x < n → y < n → z < n → r x y = true → s y z = true → s x z = true ∨ r x z = true := by
   intro f r s hg hr h1 h2 h3 x y z hx hy hz hxy hyz
   have fxy := hr.oi x y hxy
   have oyz := ot_iff.mp (h1 y z hyz)
   by_cases e : x = z
   · subst e
     have := oyz.2.2
     rw [hg.sy, fxy] at this; cases this
   · by_cases hf : f x z = true
     · rcases (hr.of x z (by omega) (by omega)).mp hf with h | h
       · exact .inr h
       · have h4 := (tr2 hr.tr (by omega) (by omega) h).2 y (by omega) hxy
         have := hr.oi z y h4
         rw [hg.sy, oyz.2.2] at this; cases this
     · rcases h3 x z (by omega) (by omega) (ot_iff.mpr ⟨⟨hx, hz⟩, e, by simpa using hf⟩) with h | h
       · exact .inl h
       · have h4 := (tr2 h2 (by omega) (by omega) hyz).2 x (by omega) h
         have := (ot_iff.mp (h1 y x h4)).2.2
         rw [hg.sy, fxy] at this; cases this
 have key2 : ∀ x y z, x < n → y < n → z < n → s x y = true → r y z = true → s x z = true ∨ r x z = true := fun x y z hx hy hz hxy hyz => by
   have h1 := key (f := f) (r := sw r) (s := sw s) hg (hr.sw hg) (fun x y h => by rw [hgo.sy]; exact hs.oi y x h) (trB_sw hs.tr) (fun x y hx hy h => ((hs.of x y hx hy).mp h).symm) z y x hz hy hx hyz hxy
   exact h1
 refine ⟨fun x hx => ?_, fun x y z hx hy hz h1 h2 => ?_, fun x y hx hy hne => ?_⟩
 · unfold jo
   rw [trB_irr hs.tr (by omega), trB_irr hr.tr (by omega)]; try rfl
 · unfold jo at h1 h2 ⊢
   rw [Bool.or_eq_true] at h1 h2 ⊢
   rcases h1 with h1 | h1 <;> rcases h2 with h2 | h2
   · exact .inl ((tr2 hs.tr (by omega) (by omega) h1).2 z (by omega) h2)
   · exact key2 x y z hx hy hz h1 h2
   · exact key hg hr (fun x y h => hs.oi x y h) hs.tr (fun x y hx hy h => (hs.of x y hx hy).mp h) x y z hx hy hz h1 h2
   · exact .inr ((tr2 hr.tr (by omega) (by omega) h1).2 z (by omega) h2)
 · unfold jo
   rw [Bool.or_eq_true, Bool.or_eq_true]
   by_cases hf : f x y = true
   · rcases (hr.of x y (by omega) (by omega)).mp hf with h | h
     · exact .inl (.inr h)
     · exact .inr (.inr h)
   · rcases (hs.of x y (by omega) (by omega)).mp (ot_iff.mpr ⟨⟨hx, hy⟩, hne, by simpa using hf⟩) with h | h
     · exact .inl (.inl h)
     · exact .inr (.inl h)
/-- The lines draw the graph. -/
theorem tour_df {n : Nat} {f r s : RF} (hg : gr n f) (hr : isOr n f r) (hs : isOr n (otR n f) s) {a b : Nat} (ha : a < n) (hb : b < n) (hne : a ≠ b) : df (ln2 n s r, ln2 n s (sw r)) a b = f a b := by
 have hn := hg.hn
 unfold df ln2
 simp only
 rw [(tour hg hr hs).bf ha hb hne, (tour hg (hr.sw hg) hs).bf ha hb hne]
 unfold jo
 show ((s a b || r a b) != (s a b || r b a)) = f a b
 have h1 := hr.of a b (by omega) (by omega)
 cases hf : f a b with
 | true =>
   have hsf : s a b = false := by
     cases h : s a b with
     | false => rfl
     | true => have := (ot_iff.mp (hs.oi a b h)).2.2; rw [hf] at this; cases this
   rw [hsf]
   rcases h1.mp hf with h | h
   · rw [h, (tr2 hr.tr (by omega) (by omega) h).1]; try rfl
   · rw [h, (tr2 hr.tr (by omega) (by omega) h).1]; try rfl
 | false =>
   have e1 : r a b = false := by
     cases h : r a b with
     | false => rfl
     | true => have := h1.mpr (.inl h); rw [hf] at this; cases this
   have e2 : r b a = false := by
     cases h : r b a with
     | false => rfl
     | true => have := h1.mpr (.inr h); rw [hf] at this; cases this
   rw [e1, e2]; cases s a b <;> rfl
theorem L46_ext2 {n : Nat} {f g : RF} (h : ∀ x y, x < y → y < n → f x y = g x y) : L46 n f = L46 n g :=
 prK_ext (fun x y _ _ => by
   unfold P46
   by_cases h1 : x < y
   · by_cases h2 : y < n
     · rw [h x y h1 h2]
     · rw [decide_eq_false h2]; simp
   · rw [decide_eq_false h1]; simp) 49 (Nat.le_refl _)
theorem L62_ext2 {n : Nat} {f : RF} {P : RF} (h : ∀ x y, P x y = P62 n f x y) : prK P 7 49 = L62 n f :=
 prK_ext (fun x y _ _ => h x y) 49 (Nat.le_refl _)
theorem dn_ref {n : Nat} {l : List Int × List Int} (h : cmB n l.1 l.2 = true) : dnL n l = L46 n (df l) := by
 obtain ⟨h0, h1, h2⟩ : (1 ≤ (n : Int) ∧ (n : Int) ≤ 7) ∧ plB n l.1 = true ∧ plB n l.2 = true := by
   have := h; unfold cmB at this; simpa using this
 unfold dnL
 rw [if_pos h, Int.toNat_natCast]
 refine L46_ext2 fun x y hx hy => ?_
 have hn := fun a b (ha : a < n) (hb : b < n) (hab : a ≠ b) => pl_ne h1 ha hb hab
 have hn2 := fun a b (ha : a < n) (hb : b < n) (hab : a ≠ b) => pl_ne h2 ha hb hab
 have n1 := hn x y (by omega) hy (by omega)
 have n2 := hn2 x y (by omega) hy (by omega)
 unfold df
 rw [bf_iff h1 (by omega) hy (by omega), bf_iff h2 (by omega) hy (by omega), Bool.eq_iff_iff, ot_iff]
 have c1 := cm_iff h (a := x) (b := y)
 have c2 := cm_iff h (a := y) (b := x)
 have e3 : both (cmR n l.1 l.2) x y = false ↔ ¬ (cmR n l.1 l.2 x y = true ∨ cmR n l.1 l.2 y x = true) := by
   unfold both jo sw
   cases cmR (n : Int) l.1 l.2 x y <;> cases cmR (n : Int) l.1 l.2 y x <;> simp
 rw [e3, c1, c2]
 generalize (plR n l.1).getD x 0 = p at *
 generalize (plR n l.1).getD y 0 = q at *
 generalize (plR n l.2).getD x 0 = u at *
 generalize (plR n l.2).getD y 0 = v at *
 by_cases g1 : p < q <;> by_cases g2 : u < v <;> simp only [g1, g2, decide_true, decide_false, bne_self_eq_false, Bool.bne_true, Bool.bne_false] <;> simp <;> omega
theorem cn_ref {n : Nat} {l : List Int × List Int} (h : cmB n l.1 l.2 = true) : cnL n l = L62 n (cf l) := by
 obtain ⟨h0, h1, h2⟩ : (1 ≤ (n : Int) ∧ (n : Int) ≤ 7) ∧ plB n l.1 = true ∧ plB n l.2 = true := by
   have := h; unfold cmB at this; simpa using this
 unfold cnL
 refine L62_ext2 fun x y => ?_
 rw [Bool.eq_iff_iff, cm_iff h]
 unfold P62 cf
 simp only [Bool.and_eq_true, decide_eq_true_eq, Bool.not_eq_true', decide_eq_false_iff_not]
 refine and_congr_right fun hh => ?_
 by_cases e : x = y
 · subst e; simp
 · rw [bf_iff h1 hh.1 hh.2 e, bf_iff h2 hh.1 hh.2 e]
   simp [e]
end Go.Am.Or

/- Orders: the law Draws. -/
namespace Go.Am.Or
open Go Go.Am Go.Proofs
noncomputable abbrev X4 : Cy := Xd [e10, e14, e15, e16, e17, e19, e18, e20, e21, e22, e23, e13] (drOf [(6, 24)])
def nq (n : Int) : Nat → Int
 | 0 => n
 | k + 1 => tmM (nq n k) 7
def tw9 (b : List Int × List Int) : List Int × List Int := (b.1.take 9, b.2.take 9)
def lq (n : Int) (b : List Int × List Int) : Nat → List Int × List Int
 | 0 => tw9 b
 | k + 1 => lnS (nq n k) b
theorem lq_len (n : Int) (b : List Int × List Int) : ∀ k, (lq n b k).1.length ≤ 9 ∧ (lq n b k).2.length ≤ 9
 | 0 => by unfold lq tw9; simp only [List.length_take]; omega
 | k + 1 => by
   have := (tmM_bd (n := nq n k) (most := 7) (by omega)).2
   unfold lq lnS; simp only [rwK_len]; omega
noncomputable def L4_0 : Code := lp (bodyOf Try.f4) 0
def st4 (n : Int) (b : List Int × List Int) (k : Nat) : St := ⟨(.int .i64 (nq n k) :: dd 4 ++ .ptr 0 0 [] :: dd 7 ++ .ptr 1 0 [] :: .int .i64 k :: dd 161), [.bx (.ar SI 2 [b.1, b.2]), .bx (.ar SI 2 [(lq n b k).1, (lq n b k).2])]⟩
def ex4 : List (List Nat × Ex) := [([], ⟨0, Unit, fun _ => True, fun _ => ⟨(dd 176), []⟩⟩)]
def h4 (n : Int) (b : List Int × List Int) : Hint := ⟨chk 0 [0, 5, 13, 14] (fun k => k ≤ 2) (st4 n b), (ex4).map (·.2)⟩
theorem loop4 (n : Int) (b : List Int × List Int) (hb : b.1.length < 1000000000000000 ∧ b.2.length < 1000000000000000) : LoopOK X4 L4_0 (h4 n b) (RetR X4 true false [.tmp 6] [.tt] []) := by
 have hq := lq_len n b
 refine loop_ok (Xd_ok _ _) (H := fun _ _ => none) [0, 5, 13, 14] (fun k => k ≤ 2) (st4 n b) (fun k => 2 - k) ex4 400 fun (k : Nat) hk => ?_
 refine of_eq (q := (fun (r : Int) => (fun (q : Int) => (fun (l : Nat) => (fun (f : Prop) => (fun (g : Prop) => (fun (s : Prop) => (fun (e : Int) => (fun (d : Prop) => (fun (c : List Int × List Int) => (fun (m : Prop) => (fun (i : Int) => (fun (h : List Int × List Int) => (fun (p : Bool) => (fun (o : Bool) => (fun (j : Int) => (fun (a : Prop) => f ∧ f ∧ ((k : Int) < 2 → f ∧ f ∧ (ok60 e h ∧ f) ∧ f ∧ f ∧ f ∧ f ∧ f ∧ f ∧ f ∧ (ok60 e h ∧ f) ∧ f ∧ f ∧ f ∧ f ∧ f ∧ f ∧ f ∧ f ∧ (e < q → f ∧ f ∧ f ∧ a) ∧ (¬e < q → f ∧ f ∧ f ∧ f ∧ ((7 : Int) < e → f ∧ a) ∧ (¬(7 : Int) < e → f ∧ f ∧ (p17 e h ∧ f) ∧ f ∧ f ∧ ((!lnB e h) = true → a) ∧ ((!lnB e h) = false → f ∧ f ∧ f ∧ (¬i = r → f ∧ f ∧ s) ∧ (¬¬i = r → f ∧ f ∧ f ∧ m ∧ (List.length (dnL e h) + 1 ≤ l ∧ f) ∧ f ∧ f ∧ f ∧ (o = true → s) ∧ (o = false → f ∧ f ∧ f ∧ f ∧ (¬i = r → f ∧ g) ∧ (¬¬i = r → f ∧ f ∧ f ∧ m ∧ (List.length (cnL e h) + 1 ≤ l ∧ f) ∧ f ∧ f ∧ (p = true → g) ∧ (p = false → d)))))))) ∧ (¬(k : Int) < 2 → ∃ (y : Unit), f ∧ f ∧ f)) (f ∧ f ∧ f ∧ (¬i = q → s) ∧ (¬¬i = q → f ∧ f ∧ f ∧ f ∧ (¬i = q → f ∧ g) ∧ (¬¬i = q → f ∧ f ∧ f ∧ f ∧ inR .i64 j ∧ f ∧ f ∧ (¬j = r → g) ∧ (¬¬j = r → d))))) ((↑(List.length (dnL e h)) : Int) + (↑(List.length (cnL e h)) : Int))) (!decide (dnL e h = L46 e.toNat (df h)))) (!decide (cnL e h = L62 e.toNat (cf h)))) ((c.fst, c.snd))) (cmE e c.fst c.snd)) ((((r ≤ e ∧ e ≤ 7) ∧ c.fst.length < l) ∧ c.snd.length < l) ∧ f)) (lq n b k)) (f ∧ f ∧ ((b.fst.length < l ∧ b.snd.length < l) ∧ f) ∧ f ∧ f ∧ f ∧ f ∧ f ∧ f ∧ inR .i64 ((k : Int) + q) ∧ f ∧ ∃ (y : Nat), (y ≤ 2 ∧ (2 : Nat) - y < 2 - k) ∧ ((↑(tmM e (7 : Nat)) : Int) = nq n y ∧ f ∧ f ∧ (k : Int) + q = (y : Int) ∧ f) ∧ [b.fst, b.snd] = [b.fst, b.snd] ∧ [(lnS e (b.fst, b.snd)).fst, (lnS e (b.fst, b.snd)).snd] = [(lq n b y).fst, (lq n b y).snd] ∧ f)) (nq n k)) (f ∧ f ∧ f ∧ g)) (f ∧ f ∧ (false = true ∧ f) ∧ f)) (True)) ((1000000000000000 : Nat))) ((1 : Int))) ((0 : Int))) (by kernel_rfl) ?_
 simp only [zz]
 obtain ⟨q1, q2⟩ := hq k
 have hy : k < 2 → inR .i64 ((k : Int) + 1) ∧ ∃ y : Nat, (y ≤ 2 ∧ 2 - y < 2 - k) ∧ (((tmM (nq n k) 7 : Nat) : Int) = nq n y ∧ (k : Int) + 1 = y) ∧ [(lnS (nq n k) (b.1, b.2)).1, (lnS (nq n k) (b.1, b.2)).2] = [(lq n b y).1, (lq n b y).2] := fun h => ⟨in1 (by omega), k + 1, by omega, ⟨rfl, rfl⟩, rfl⟩
 generalize nq n k = N at hy ⊢
 generalize lq n b k = L at q1 q2 ⊢
 obtain ⟨L1, L2⟩ := L
 simp only at q1 q2
 refine ⟨fun h1 => ?_, fun _ => trivial⟩
 obtain ⟨y1, y2⟩ := hy (by omega)
 have ok : ok60 N (L1, L2) := ⟨by show L1.length < _; omega, by show L2.length < _; omega⟩
 by_cases hc : cmB N L1 L2 = true
 · obtain ⟨⟨n1, n7⟩, p1, p2⟩ : (1 ≤ N ∧ N ≤ 7) ∧ plB N L1 = true ∧ plB N L2 = true := by
     have := hc; unfold cmB at this; simpa using this
   obtain ⟨m, rfl⟩ : ∃ m : Nat, N = (m : Int) := ⟨N.toNat, by omega⟩
   have e0 : cmE m L1 L2 = 0 := by unfold cmE; rw [if_pos hc]
   have g1 : ¬ (m : Int) < 1 := by omega
   have g2 : ¬ (7 : Int) < m := by omega
   have g3 : lnB m (L1, L2) = true := by unfold lnB; rw [p1, p2]; try rfl
   have g4 : p17 m (L1, L2) := ⟨n1, n7, by show L1.length < _; omega, by show L2.length < _; omega⟩
   have g5 : dnL m (L1, L2) = L46 m (df (L1, L2)) := dn_ref (l := (L1, L2)) hc
   have g6 : cnL m (L1, L2) = L62 m (cf (L1, L2)) := cn_ref (l := (L1, L2)) hc
   have l5 : (L46 m (df (L1, L2))).length + 1 ≤ 1000000000000000 := by
     have : (L46 m (df (L1, L2))).length ≤ 49 := prK_len _ 7 49
     omega
   have l6 : (L62 m (cf (L1, L2))).length + 1 ≤ 1000000000000000 := by
     have : (L62 m (cf (L1, L2))).length ≤ 49 := prK_len _ 7 49
     omega
   have l7 : L1.length < 1000000000000000 := by omega
   have l8 : L2.length < 1000000000000000 := by omega
   have g0 : (0 : Int) ≤ m := by omega
   rw [Int.toNat_natCast, g5, g6, e0, g3]
   refine ⟨ok, ok, fun h => absurd h g1, fun _ => ⟨fun h => absurd h g2, fun _ => ⟨g4, (fun h => by cases h), fun _ => ⟨fun h => absurd rfl h, fun _ => ⟨⟨⟨⟨g0, n7⟩, l7⟩, l8⟩, l5, (fun h => by simp at h), fun _ => ⟨fun h => absurd rfl h, fun _ => ⟨⟨⟨⟨g0, n7⟩, l7⟩, l8⟩, l6, (fun h => by simp at h), fun _ => ⟨hb, y1, y2⟩⟩⟩⟩⟩⟩⟩⟩
 · have hcf : cmB N L1 L2 = false := by simpa using hc
   have e0 : cmE N L1 L2 = 1 := by unfold cmE; rw [if_neg hc]
   have g5 : dnL N (L1, L2) = [] := by unfold dnL; rw [if_neg hc]
   have g6 : cnL N (L1, L2) = [] := by unfold cnL cmR; rw [if_neg hc]; decide +kernel
   have g3 : 1 ≤ N → N ≤ 7 → lnB N (L1, L2) = false := fun n1 n7 => by
     unfold lnB
     unfold cmB at hcf
     rw [decide_eq_true ⟨n1, n7⟩] at hcf
     simpa using hcf
   rw [g5, g6, e0]
   have i0 : inR .i64 (0 : Int) := by simp only [inR]; omega
   have bad : (¬ (1 : Int) = 1 → false = true) ∧ (¬¬ (1 : Int) = 1 → (¬ (1 : Int) = 1 → false = true) ∧ (¬¬ (1 : Int) = 1 → inR .i64 (((([] : LP).length : Nat) : Int) + ((([] : LP).length : Nat) : Int)) ∧ (¬ ((([] : LP).length : Nat) : Int) + ((([] : LP).length : Nat) : Int) = 0 → false = true) ∧ (¬¬ ((([] : LP).length : Nat) : Int) + ((([] : LP).length : Nat) : Int) = 0 → (b.1.length < 1000000000000000 ∧ b.2.length < 1000000000000000) ∧ inR .i64 ((k : Int) + 1) ∧ ∃ y : Nat, (y ≤ 2 ∧ 2 - y < 2 - k) ∧ (((tmM N 7 : Nat) : Int) = nq n y ∧ (k : Int) + 1 = y) ∧ [(lnS N (b.1, b.2)).1, (lnS N (b.1, b.2)).2] = [(lq n b y).1, (lq n b y).2]))) :=
     ⟨fun h => absurd rfl h, fun _ => ⟨fun h => absurd rfl h, fun _ => ⟨i0, fun h => absurd rfl h, fun _ => ⟨hb, y1, y2⟩⟩⟩⟩
   refine ⟨ok, ok, fun _ => bad, fun h2 => ⟨fun _ => bad, fun h3 => ⟨⟨by omega, by omega, by show L1.length < _; omega, by show L2.length < _; omega⟩, fun _ => bad, fun h => ?_⟩⟩⟩
   rw [g3 (by omega) (by omega)] at h
   cases h
theorem lnL_le {w : List Int × List Int} {m : Nat} (h : lnB m w = true) : w.1.length = m ∧ w.2.length = m := by
 unfold lnB at h
 rw [Bool.and_eq_true] at h
 exact ⟨(pl_nodup h.1).2.1, (pl_nodup h.2).2.1⟩
/-- What is known of the graph. -/
structure F4 (m : Nat) (e : LP) : Prop where
 m0 : (0 : Int) ≤ m
 m1 : (1 : Int) ≤ m
 m7 : (m : Int) ≤ 7
 ge : grOk m e
 el : e.length ≤ 49
 rA : rckN m e = 0 ↔ (orR m (eg e)).2 = true
 rB : rckN m (L46 m (nj e)) = 0 ↔ (orR m (otR m (eg e))).2 = true
 yes : drB m e = true → lnB m (drL m e) = true ∧ L46 m (df (drL m e)) = e
 no : drB m e = false → drL m e = ([], [])
theorem F4_of {m : Nat} (m1 : 1 ≤ m) (m7 : m ≤ 7) {e : LP} {g : RF} (ee : e = L46 m g) : F4 m e := by
 have ge : grOk m e := by rw [ee]; exact L46_ok m1 m7 _
 have hg := gr_eg ge
 have ho := gr_ot hg
 have en : L46 m (nj e) = L46 m (otR m (eg e)) := L46_ext2 fun x y h1 h2 => by
   unfold nj otR
   rw [jn_all ge, decide_eq_true (show x < m by omega), decide_eq_true h2, decide_eq_false (show ¬ x = y by omega)]; try rfl
 have g2 : grOk m (L46 m (otR m (eg e))) := L46_ok m1 m7 _
 refine ⟨by omega, by omega, by omega, ge, ?_, (rckN_zero ge).trans (orR_iff hg).symm, ?_, fun h => ?_, fun h => ?_⟩
 · rw [ee]; exact prK_len _ 7 49
 · rw [en, rckN_zero g2, ← orR_iff (gr_eg g2), orR_ext m1 m7 (fun x y hx hy => eg_back ho hx hy)]
 · have h' := h
   unfold drB at h'
   rw [Bool.and_eq_true] at h'
   have hr := orR_isOr hg h'.1
   have hs := orR_isOr ho h'.2
   unfold drL
   rw [if_pos h]
   refine ⟨?_, ?_⟩
   · unfold lnB ln2
     rw [(tour hg hr hs).pl, (tour hg (hr.sw hg) hs).pl]; try rfl
   · rw [L46_ext2 (f := df _) (g := eg e) fun x y h1 h2 => tour_df hg hr hs (by omega) h2 (by omega)]
     rw [ee]
     refine L46_ext2 fun x y h1 h2 => ?_
     rw [Bool.eq_iff_iff, eg_L46 (by omega) (by omega)]
     exact ⟨fun h => h.elim (·.2.2) fun h => absurd h.1 (by omega), fun h => .inl ⟨h1, h2, h⟩⟩
 · unfold drL
   rw [if_neg (by rw [h]; decide)]
theorem call4 (n : Int) (l : LP) (b : List Int × List Int) (hl : l.length < 1000000000000000) (hb : b.1.length < 1000000000000000 ∧ b.2.length < 1000000000000000) : GCall Try.prog gl 4 true [.int .i64 n, .sl P2 l, .ar SI 2 [b.1, b.2]] [] [.tt] [] := by
 obtain ⟨b1, b2⟩ := b
 obtain ⟨m1, m7⟩ := tmM_bd (n := n) (most := 7) (by omega)
 have F : F4 (tmM n 7) (tmL (tmM n 7) l) := F4_of m1 m7 rfl
 refine gcall_of (X := X4) ((Xd_ok _ _)) (f := 4) (fn := Try.f4) (c := bodyOf Try.f4) (by kernel_rfl) (by kernel_rfl) (view := false) (rvs := [.tmp 6]) (by kernel_rfl) (H := (fun _ => some (h4 n (b1, b2)))) 400 (by kernel_rfl) ?_
 have hL := loop4 n (b1, b2) hb
 refine of_eq (q := (fun (s : Nat) => (fun (q : Prop) => (fun (m : Option Int) => (fun (k : Option Int) => (fun (i : Int) => (fun (v : Prop) => (fun (f : Prop) => (fun (g : Prop) => (fun (t : Prop) => (fun (d : Prop) => (fun (b : Nat) => (fun (w : Int) => (fun (j : Prop) => (fun (h : LP) => (fun (x : Prop) => (fun (o : Bool) => (fun (u : Bool) => (fun (e : List Int × List Int) => (fun (z : Bool) => (fun (r : LP) => (fun (p : Int) => (fun (a : Prop) => (fun (c : Prop) => f ∧ f ∧ f ∧ f ∧ ((((1 : Int) ≤ 7 ∧ (7 : Int) ≤ 7) ∧ List.length l < s) ∧ f) ∧ f ∧ f ∧ f ∧ f ∧ f ∧ f ∧ f ∧ (grOk w h ∧ f) ∧ f ∧ f ∧ f ∧ f ∧ f ∧ f ∧ f ∧ f ∧ f ∧ f ∧ x ∧ f ∧ f ∧ (rckN b h = i → f ∧ f ∧ f ∧ x ∧ ((j ∧ List.length (L46 b (nj h)) < s) ∧ f) ∧ f ∧ f ∧ f ∧ f ∧ f ∧ f ∧ (¬i = i → f ∧ f ∧ t) ∧ (¬¬i = i → f ∧ f ∧ f ∧ f ∧ f ∧ (u = true → t) ∧ (u = false → c))) ∧ (¬rckN b h = i → f ∧ f ∧ f ∧ f ∧ f ∧ (¬i = i → f ∧ f ∧ t) ∧ (¬¬i = i → f ∧ f ∧ f ∧ f ∧ f ∧ ((o != false) = true → t) ∧ ((o != false) = false → c)))) (f ∧ f ∧ (o = true → f ∧ f ∧ (p17 w (e.fst, e.snd) ∧ f) ∧ f ∧ f ∧ (z = true → f ∧ f ∧ t) ∧ (z = false → f ∧ f ∧ (((j ∧ e.fst.length < s) ∧ e.snd.length < s) ∧ f) ∧ f ∧ (List.length r + 1 ≤ s ∧ f) ∧ f ∧ f ∧ f ∧ f ∧ f ∧ ((!decide (r = h)) = true → f ∧ g) ∧ ((!decide (r = h)) = false → a))) ∧ (o = false → f ∧ f ∧ f ∧ a))) (f ∧ f ∧ f ∧ ((!o) = true → v ∧ f ∧ f ∧ q ∧ f ∧ f ∧ inR .i64 p ∧ f ∧ f ∧ f ∧ (¬p = i → g) ∧ (¬¬p = i → d)) ∧ ((!o) = false → f ∧ f ∧ d))) ((e.fst.length : Int) + (e.snd.length : Int))) (L46 b (df (e.fst, e.snd)))) (!lnB w (e.fst, e.snd))) (drL b h)) (o != decide (rckN b (L46 b (nj h)) = i))) (drB b h)) ((j ∧ List.length h < s) ∧ f)) (tmL b l)) (i ≤ w ∧ w ≤ 7)) ((b : Int))) (tmM n (7 : Nat))) (v ∧ f ∧ v ∧ f ∧ f ∧ f ∧ v ∧ f ∧ f ∧ f ∧ slPre b1.length b1.length none k k ∧ q ∧ f ∧ q ∧ f ∧ f ∧ f ∧ q ∧ f ∧ f ∧ f ∧ slPre b2.length b2.length none m m ∧ f ∧ f ∧ f ∧ f ∧ LoopOK X4 L4_0 (h4 n (b1, b2)) (RetR X4 true false [ResultVar.tmp (6 : Tmp)] [AV.tt] []) ∧ (∃ (y : Nat), y ≤ 2 ∧ (n = nq n y ∧ f ∧ f ∧ i = (y : Int) ∧ f) ∧ [b1, b2] = [b1, b2] ∧ [cutL b1 none k, cutL b2 none m] = [(lq n (b1, b2) y).fst, (lq n (b1, b2) y).snd] ∧ f) ∧ (∀ (y : Unit), f → (f ∧ f) ∧ f ∧ f ∧ (true = true ∧ f) ∧ f) ∧ f)) (f ∧ f ∧ f ∧ g)) (f ∧ f ∧ (false = true ∧ f) ∧ f)) (True)) (idxPre i (2 : Nat))) ((0 : Int))) (some (minI (b1.length : Int) (9 : Int)))) (some (minI (b2.length : Int) (9 : Int)))) (idxPre (1 : Int) (2 : Nat))) ((1000000000000000 : Nat))) (by kernel_rfl) ?_
 simp only [zz]
 have hmin : ∀ b : List Int, 0 ≤ minI (b.length : Int) 9 ∧ minI (b.length : Int) 9 ≤ b.length ∧ (minI (b.length : Int) 9).toNat = min b.length 9 := fun b => by
   unfold minI; split <;> omega
 have hs : ∀ b : List Int, slPre b.length b.length none (some (minI (b.length : Int) 9)) (some (minI (b.length : Int) 9)) := fun b => by
   have := hmin b
   simp only [slPre]; omega
 have hc : ∀ b : List Int, cutL b none (some (minI (b.length : Int) 9)) = b.take 9 := fun b => by
   show b.take (minI (b.length : Int) 9).toNat = _
   rw [(hmin b).2.2]
   by_cases h : b.length ≤ 9
   · rw [Nat.min_eq_left h, List.take_length, List.take_of_length_le h]
   · rw [Nat.min_eq_right (by omega)]
 have hs1 := hs b1
 have hs2 := hs b2
 have hex : ∃ y : Nat, y ≤ 2 ∧ (n = nq n y ∧ (0 : Int) = y) ∧ [cutL b1 none (some (minI (b1.length : Int) 9)), cutL b2 none (some (minI (b2.length : Int) 9))] = [(lq n (b1, b2) y).1, (lq n (b1, b2) y).2] := ⟨0, Nat.zero_le _, ⟨rfl, rfl⟩, by rw [hc, hc]; rfl⟩
 generalize tmL (tmM n 7) l = e at *
 generalize tmM n 7 = m at *
 have el2 : (L46 m (nj e)).length < 1000000000000000 := by
   have : (L46 m (nj e)).length ≤ 49 := prK_len _ 7 49
   omega
 have el := F.el
 have el1 : e.length < 1000000000000000 := by omega
 refine ⟨⟨⟨by decide, by decide⟩, hl⟩, F.ge, ⟨⟨F.m0, F.m7⟩, el1⟩, fun hA => ⟨⟨⟨F.m0, F.m7⟩, el1⟩, ⟨⟨F.m0, F.m7⟩, el2⟩, (fun h => absurd trivial h), fun _ => ⟨fun h => ?_, fun _ => ⟨?_, ?_⟩⟩⟩, fun hA => ⟨(fun h => absurd trivial h), fun _ => ⟨fun h => ?_, fun _ => ⟨?_, ?_⟩⟩⟩⟩
 · have : drB m e = decide (rckN m (L46 m (nj e)) = 0) := by
     unfold drB
     rw [F.rA.mp hA, Bool.true_and, Bool.eq_iff_iff, decide_eq_true_eq]; exact F.rB.symm
   rw [this] at h
   simp at h
 · intro hD
   obtain ⟨y1, y2⟩ := F.yes hD
   obtain ⟨l1, l2⟩ := lnL_le y1
   have y1' : lnB m ((drL m e).1, (drL m e).2) = true := y1
   have y2' : L46 m (df ((drL m e).1, (drL m e).2)) = e := y2
   rw [y1', y2']
   exact ⟨⟨F.m1, F.m7, by show (drL m e).1.length < _; omega, by show (drL m e).2.length < _; omega⟩, (fun h => by cases h), fun _ => ⟨⟨⟨⟨F.m0, F.m7⟩, by omega⟩, by omega⟩, by omega, (fun h => by simp at h), fun _ => ⟨(fun h => by rw [hD] at h; cases h), fun _ => ⟨i02, i02, i02, hs1, i12, i12, i12, hs2, hL, hex, fun _ _ => trivial⟩⟩⟩⟩
 · intro hD
   rw [F.no hD, hD]
   exact ⟨fun _ => ⟨i02, i12, by simp [inR], (fun h => absurd rfl h), fun _ => ⟨i02, i02, i02, hs1, i12, i12, i12, hs2, hL, hex, fun _ _ => trivial⟩⟩, (fun h => by cases h)⟩
 · have : drB m e = false := by
     unfold drB
     cases h2 : (orR m (eg e)).2 with
     | true => exact absurd (F.rA.mpr h2) hA
     | false => rfl
   rw [this] at h
   simp at h
 · intro hD
   obtain ⟨y1, y2⟩ := F.yes hD
   obtain ⟨l1, l2⟩ := lnL_le y1
   have y1' : lnB m ((drL m e).1, (drL m e).2) = true := y1
   have y2' : L46 m (df ((drL m e).1, (drL m e).2)) = e := y2
   rw [y1', y2']
   exact ⟨⟨F.m1, F.m7, by show (drL m e).1.length < _; omega, by show (drL m e).2.length < _; omega⟩, (fun h => by cases h), fun _ => ⟨⟨⟨⟨F.m0, F.m7⟩, by omega⟩, by omega⟩, by omega, (fun h => by simp at h), fun _ => ⟨(fun h => by rw [hD] at h; cases h), fun _ => ⟨i02, i02, i02, hs1, i12, i12, i12, hs2, hL, hex, fun _ _ => trivial⟩⟩⟩⟩
 · intro hD
   rw [F.no hD, hD]
   exact ⟨fun _ => ⟨i02, i12, by simp [inR], (fun h => absurd rfl h), fun _ => ⟨i02, i02, i02, hs1, i12, i12, i12, hs2, hL, hex, fun _ _ => trivial⟩⟩, (fun h => by cases h)⟩
end Go.Am.Or

/- Orders: from the laws' contracts to the given statements: what all laws share. -/
namespace Go.Proofs.Ytlfigncfoiofgaa
open Go Go.ChangeShapes Go.WideShapes Go.ChangeAt Go.RowKit Go.Am Go.Am.Or
theorem own : ownKnob Try.prog.godebug = none := by kernel_rfl
theorem laidOut : laidOutB Try.prog = true := by kernel_rfl
theorem u3 : Try.prog.underlying 3 = some (.int .i64) := by kernel_rfl
theorem u4 : Try.prog.underlying 4 = some .bool := by kernel_rfl
theorem u31 : Try.prog.underlying 31 = some (.slice 3) := by kernel_rfl
theorem u52 : Try.prog.underlying 52 = some (.array 2 3) := by kernel_rfl
theorem u22 : Try.prog.underlying 22 = some (.slice 52) := by kernel_rfl
theorem u32 : Try.prog.underlying 32 = some (.array 2 31) := by kernel_rfl
theorem tyOk3 : TyOk Try.prog 3 I64 := u3
theorem tyOk31 : TyOk Try.prog 31 (.sl I64) := ⟨3, u31, u3, by kernel_rfl, by decide, of_decide_eq_true (by kernel_rfl)⟩
theorem tyOk52 : TyOk Try.prog 52 P2 := ⟨3, u52, u3, by kernel_rfl, by kernel_rfl⟩
theorem tyOk22 : TyOk Try.prog 22 (.sl P2) := ⟨52, u22, tyOk52, by kernel_rfl, by decide, of_decide_eq_true (by kernel_rfl)⟩
theorem tyOk32 : TyOk Try.prog 32 (.a2 (.sl I64)) := ⟨31, u32, tyOk31, by kernel_rfl, by kernel_rfl⟩
theorem reach_le {l : List Nat} (h : l.all (fun x => decide (x ≤ reachBytes)) = true) : ∀ n ∈ l, n ≤ 140737488355328 := fun n hn => by
 have := of_decide_eq_true (List.all_eq_true.mp h n hn)
 have e : reachBytes = 140737488351232 := rfl
 omega
theorem glob_of {W : World} : GlobOk gl (fun b => b < W.heap.size) W := fun g p hp => by cases hp
theorem two_len {F : Nat → Prop} {w : World} {x : List Int × List Int} {cs : List Value} (h : CD F w (.a2 (.sl I64)) x cs) : x.1.length < 1000000000000000 ∧ x.2.length < 1000000000000000 := by
 simp only [CD] at h
 obtain ⟨c1, c2, _, h1, h2⟩ := h
 have := CD.sl_len (e := I64) (xs := x.1) (by simpa only [CD] using h1)
 have := CD.sl_len (e := I64) (xs := x.2) (by simpa only [CD] using h2)
 exact ⟨by omega, by omega⟩
end Go.Proofs.Ytlfigncfoiofgaa
