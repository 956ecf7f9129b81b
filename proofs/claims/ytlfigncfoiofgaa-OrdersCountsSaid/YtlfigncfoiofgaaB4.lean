/- Part B4 of the proof that the law named in the last file returns true at every input and leaves its arguments as they were; no condition of its own. -/
import Derived.Test.YtlfigncfoiofgaaB3
import Derived.Test.YtlfigncfoiofgaaA2
import Derived.Test.YtlfigncfoiofgaaRows
import Derived.WalkKit
import Derived.ProofKit
import Derived.OpenShut
import Derived.SizedLaws
import Derived.ChangeOld
import Derived.Below
import Derived.Stop.Joined
set_option linter.unusedSimpArgs false
set_option linter.unusedVariables false
/- Orders: the number of orders. -/
namespace Go.Am.Or
open Go Go.Am Go.Proofs
def spC (f r : RF) (a b c : Nat) : Bool := (r b c && (!f a c || r c a)) || (r c a && (!f c b || r b c))
def spB (n : Nat) (f r : RF) (a b : Nat) : Bool := (List.range n).any (spC f r a b)
noncomputable def L49_0 : Code := lp (bodyOf Try.f49) 0
def st49 (n : Nat) (f r : RF) (a b c : Nat) : St := ⟨(.ptr 0 0 [] :: .dead :: .int .i64 a :: .int .i64 b :: .dead :: .ptr 1 0 [] :: dd 7 ++ .int .i64 n :: .int .i64 c :: dd 51), [grO n f, relO r]⟩
def ex49 (n : Nat) (f r : RF) (a b : Nat) : List (List Nat × Ex) := [([], ⟨0, Unit, fun _ => spB n f r a b = false, fun _ => ⟨(dd 66), [grO n f]⟩⟩)]
def h49 (n : Nat) (f r : RF) (a b : Nat) : Hint := ⟨chk 1 [0, 2, 3, 5, 13, 14] (fun c => c ≤ n ∧ ∀ j, j < c → spC f r a b j = false) (st49 n f r a b), (ex49 n f r a b).map (·.2)⟩
theorem spB_yes {n : Nat} {f r : RF} {a b c : Nat} (hc : c < n) (h : spC f r a b c = true) : spB n f r a b = true := List.any_eq_true.mpr ⟨c, by simpa using hc, h⟩
theorem spB_no {n : Nat} {f r : RF} {a b : Nat} (h : ∀ j, j < n → spC f r a b j = false) : spB n f r a b = false := by
 unfold spB
 rw [List.any_eq_false]
 intro j hj
 rw [h j (by simpa using hj)]; decide
theorem loop49 (n : Nat) (hn : n ≤ 7) (f r : RF) (a b : Nat) (ha : a < 7) (hb : b < 7) : LoopOK X1 L49_0 (h49 n f r a b) (RetR X1 true false [.tmp 8] [.bool (spB n f r a b)] [grO n f]) := by
 refine loop_ok (Xm_ok _ _ _) (H := fun _ _ => none) [0, 2, 3, 5, 13, 14] (fun c => c ≤ n ∧ ∀ j, j < c → spC f r a b j = false) (st49 n f r a b) (fun c => n - c) (ex49 n f r a b) 250 fun (c : Nat) hc => ?_
 refine of_eq (q := (fun (u : Int) => (fun (t : Int) => (fun (s : Rl) => (fun (q : Prop) => (fun (p : Prop) => (fun (k : Prop) => (fun (i : Prop) => (fun (o : Prop) => (fun (h : Prop) => (fun (g : Prop) => (fun (e : List Bool) => (fun (w : Bool) => (fun (v : Bool) => (fun (m : Bool) => (fun (l : Bool) => (fun (d : Prop) => i ∧ (u < t → i ∧ i ∧ i ∧ i ∧ p ∧ k ∧ i ∧ i ∧ (l = true → i ∧ i ∧ i ∧ i ∧ i ∧ q ∧ k ∧ i ∧ i ∧ i ∧ (v = true → i ∧ i ∧ i ∧ i ∧ h) ∧ (v = false → i ∧ i ∧ k ∧ q ∧ i ∧ i ∧ i ∧ i ∧ (m = true → i ∧ h) ∧ (m = false → d))) ∧ (l = false → i ∧ i ∧ d)) ∧ (¬u < t → ∃ (y : Unit), spB n f r a b = false ∧ i ∧ o ∧ i)) (i ∧ i ∧ k ∧ q ∧ i ∧ i ∧ (m = true → i ∧ i ∧ i ∧ i ∧ i ∧ k ∧ p ∧ i ∧ i ∧ i ∧ (w = true → i ∧ i ∧ i ∧ h) ∧ (w = false → i ∧ i ∧ p ∧ k ∧ i ∧ i ∧ i ∧ i ∧ (l = true → h) ∧ (l = false → g))) ∧ (m = false → i ∧ i ∧ g))) (List.getD (List.getD (mkR r) b e) c false)) (List.getD (List.getD (mkR r) c e) a false)) (!List.getD (List.getD s a e) c false)) (!List.getD (List.getD s c e) b false)) ([false, false, false, false, false, false, false])) (inR .i64 (u + 1) ∧ i ∧ ∃ (y : Nat), ((y ≤ n ∧ ∀ (j : Nat), j < y → spC f r a b j = false) ∧ n - y < n - c) ∧ (i ∧ (a : Int) = (a : Int) ∧ (b : Int) = (b : Int) ∧ i ∧ t = t ∧ u + 1 = (y : Int) ∧ i) ∧ o ∧ mkR r = mkR r ∧ i)) (i ∧ i ∧ (true = spB n f r a b ∧ i) ∧ o ∧ i)) (t = t ∧ s = s ∧ i)) (True)) (idxPre u (7 : Nat))) (idxPre (b : Int) (7 : Nat))) (idxPre (a : Int) (7 : Nat))) (mkR f)) ((n : Int))) ((c : Int))) (by kernel_rfl) ?_
 simp only [zz]
 obtain ⟨c1, c2⟩ := hc
 refine ⟨fun h1 => ?_, fun h1 => spB_no fun j hj => c2 j (by omega)⟩
 have h1 : c < n := by omega
 have yes : spC f r a b c = true → true = spB n f r a b := fun h => (spB_yes h1 h).symm
 have no : spC f r a b c = false → inR .i64 ((c : Int) + 1) ∧ ∃ y : Nat, ((y ≤ n ∧ ∀ j, j < y → spC f r a b j = false) ∧ n - y < n - c) ∧ (c : Int) + 1 = (y : Int) := fun h => ⟨in1 (by omega), c + 1, ⟨⟨by omega, fun j hj => by
   by_cases e : j = c
   · rw [e]; exact h
   · exact c2 j (by omega)⟩, by omega⟩, by omega⟩
 have ia := i7 ha
 have ib := i7 hb
 have ic := i7 (show c < 7 by omega)
 rw [rel_get r hb (by omega), rel_get r (by omega) ha, rel_get f ha (by omega), rel_get f (by omega) hb]
 generalize (inR .i64 ((c : Int) + 1) ∧ ∃ y : Nat, ((y ≤ n ∧ ∀ j, j < y → spC f r a b j = false) ∧ n - y < n - c) ∧ (c : Int) + 1 = (y : Int)) = N at no ⊢
 unfold spC at yes no
 generalize (true = spB n f r a b) = Y at yes ⊢
 clear c2
 (repeat' first | with_reducible exact trivial | with_reducible apply And.intro | intro _)
 all_goals first | exact ia | exact ib | exact ic | exact yes (by simp_all) | exact no (by simp_all)
theorem call49 (n : Nat) (hn : n ≤ 7) (f r : RF) (a b : Nat) (ha : a < 7) (hb : b < 7) : GCall Try.prog gl 49 true [.ptr 0 0 [], .ar Q7 7 (mkR r), .int .i64 a, .int .i64 b] [grO n f] [.bool (spB n f r a b)] [grO n f] := by
 refine gcall_of (X := X1) ((Xm_ok _ _ _)) (f := 49) (fn := Try.f49) (c := bodyOf Try.f49) (by kernel_rfl) (by kernel_rfl) (view := false) (rvs := [.tmp 8]) (by kernel_rfl) (H := (fun _ => some (h49 n f r a b))) 150 (by kernel_rfl) ?_
 have hL := loop49 n hn f r a b ha hb
 refine of_eq (q := (fun (d : Prop) => (fun (c : Int) => (fun (e : Prop) => d ∧ d ∧ d ∧ d ∧ d ∧ d ∧ d ∧ LoopOK X1 L49_0 (h49 n f r a b) (RetR X1 true false [ResultVar.tmp (8 : Tmp)] [AV.bool (spB n f r a b)] [grO c f]) ∧ (∃ (y : Nat), (y ≤ n ∧ ∀ (j : Nat), j < y → spC f r a b j = false) ∧ (d ∧ (a : Int) = (a : Int) ∧ (b : Int) = (b : Int) ∧ d ∧ c = c ∧ (0 : Int) = (y : Int) ∧ d) ∧ e ∧ mkR r = mkR r ∧ d) ∧ (∀ (y : Unit), spB n f r a b = false → d ∧ d ∧ (false = spB n f r a b ∧ d) ∧ e ∧ d) ∧ d) (c = c ∧ mkR f = mkR f ∧ d)) ((n : Int))) (True)) (by kernel_rfl) ?_
 simp only [zz]
 exact ⟨hL, ⟨0, ⟨Nat.zero_le _, fun j hj => absurd hj (Nat.not_lt_zero _)⟩, rfl⟩, fun _ h => h.symm⟩
def get49 (xs : List AV) (obs : List Ob) : Option ((Int × Rl) × Rl × Int × Int) :=
 match xs, unG (obs.getD 0 .gone) with
 | [_, .ar e _ ys, .int .i64 a, .int .i64 b], some g => (match castL e Q7 ys with
   | some zs => some (g, zs, a, b)
   | none => none)
 | _, _ => none
structure ok49 (x : (Int × Rl) × Rl × Int × Int) : Prop where
 g : okG x.1
 r : x.2.1 = mkR (rg x.2.1)
 a : 0 ≤ x.2.2.1 ∧ x.2.2.1 < 7
 b : 0 ≤ x.2.2.2 ∧ x.2.2.2 < 7
noncomputable def e49 : Entry Try.prog gl := entryW 49 ⟨Try.f49, by kernel_rfl, by kernel_rfl, by kernel_rfl⟩ true get49 ok49 true (fun x => [.ptr 0 0 [], .ar Q7 7 x.2.1, .int .i64 x.2.2.1, .int .i64 x.2.2.2]) (fun x => [grQ x.1]) (fun x => [.bool (spB x.1.1.toNat (rg x.1.2) (rg x.2.1) x.2.2.1.toNat x.2.2.2.toNat)]) (fun x => [grQ x.1]) (fun x h => by
 rw [grQ_ok h.g]
 have := call49 x.1.1.toNat (by have := h.g.n7; omega) (rg x.1.2) (rg x.2.1) x.2.2.1.toNat x.2.2.2.toNat (by have := h.a; omega) (by have := h.b; omega)
 rwa [← h.r, Int.toNat_of_nonneg h.a.1, Int.toNat_of_nonneg h.b.1] at this)
def sp1 (n : Nat) (f r : RF) (a b : Nat) : Bool := spB n f (upd r a b true) a b
def gw (n : Nat) (f : RF) : LP → RF → Nat
 | [], r => if trB r = true then 1 else 0
 | e :: l, r => (if sp1 n f r e.1.toNat e.2.toNat = true then 0 else gw n f l (upd r e.1.toNat e.2.toNat true)) + (if sp1 n f r e.2.toNat e.1.toNat = true then 0 else gw n f l (upd r e.2.toNat e.1.toNat true))
def hf (n : Nat) (f : RF) (l : LP) (r : RF) (a b : Nat) : Nat := if sp1 n f r a b = true then 0 else gw n f l (upd r a b true)
theorem gw_le (n : Nat) (f : RF) : ∀ (l : LP) (r : RF), gw n f l r ≤ 2 ^ l.length
 | [], r => by rw [gw]; split <;> simp
 | e :: l, r => by
   have h1 := gw_le n f l (upd r e.1.toNat e.2.toNat true)
   have h2 := gw_le n f l (upd r e.2.toNat e.1.toNat true)
   rw [gw, List.length_cons, Nat.pow_succ]
   split <;> split <;> omega
/-- The objects of the search: the list, the relation, the number, the graph, the search itself. -/
def gG (n : Nat) (f : RF) (l : LP) (r : RF) (v : Nat) : List Ob := [.bx (.sl P2 l), relO r, .bx (.int .i64 v), .bx (.ptr 4 0 []), grO n f, .bx (.clo 47 [] [.ptr 0 0 [], .ptr 1 0 [], .ptr 2 0 [], .ptr 3 0 [], .ptr 5 0 []])]
def aG (i : Int) : List AV := [.int .i64 i, .ptr 0 0 [], .ptr 1 0 [], .ptr 2 0 [], .ptr 3 0 [], .ptr 5 0 []]
structure okW (n : Nat) (f : RF) (l l1 l2 : LP) (r : RF) (v : Nat) : Prop where
 n1 : 1 ≤ n
 hn : n ≤ 7
 e : l = l1 ++ l2
 h2 : ∀ y, y ∈ l2 → (0 ≤ y.1 ∧ y.1 < 7) ∧ (0 ≤ y.2 ∧ y.2 < 7) ∧ ¬ y.1 = y.2 ∧ r y.1.toNat y.2.toNat = false ∧ r y.2.toNat y.1.toNat = false
 nd : l2.Pairwise fun y z => ¬ (y.1 = z.1 ∧ y.2 = z.2) ∧ ¬ (y.1 = z.2 ∧ y.2 = z.1)
 hl : l.length ≤ 21
 v : v + 2 ^ l2.length ≤ 1000000000
def GS (n : Nat) (f : RF) (l : LP) (d : Nat) : Prop := ∀ l1 l2 r v, l2.length = d → okW n f l l1 l2 r v → GCall Try.prog gl 47 false (aG l1.length) (gG n f l r v) [] (gG n f l r (v + gw n f l2 r))
def unRl : Ob → Option Rl
 | .bx (.ar e _ ys) => castL e Q7 ys
 | _ => none
def get47 (xs : List AV) (obs : List Ob) : Option (Int × Rl × Int) :=
 match xs, unRl (obs.getD 1 .gone), unI (obs.getD 2 .gone) with
 | .int .i64 i :: _, some r, some v => some (i, r, v)
 | _, _, _ => none
structure ok47 (n : Nat) (f : RF) (l : LP) (d : Nat) (x : Int × Rl × Int) : Prop where
 i : 0 ≤ x.1
 d : x.1.toNat + d = l.length
 r : x.2.1 = mkR (rg x.2.1)
 v : 0 ≤ x.2.2
 w : okW n f l (l.take x.1.toNat) (l.drop x.1.toNat) (rg x.2.1) x.2.2.toNat
def gQ (n : Nat) (f : RF) (l : LP) (xs : Rl) (v : Int) : List Ob := [.bx (.sl P2 l), .bx (.ar Q7 7 xs), .bx (.int .i64 v), .bx (.ptr 4 0 []), grO n f, .bx (.clo 47 [] [.ptr 0 0 [], .ptr 1 0 [], .ptr 2 0 [], .ptr 3 0 [], .ptr 5 0 []])]
noncomputable def e47 (n : Nat) (f : RF) (l : LP) (d : Nat) (h : GS n f l d) : Entry Try.prog gl := entryW 47 ⟨Try.f47, by kernel_rfl, by kernel_rfl, by kernel_rfl⟩ true get47 (ok47 n f l d) false (fun x => aG x.1) (fun x => gQ n f l x.2.1 x.2.2) (fun _ => []) (fun x => gQ n f l x.2.1 (x.2.2 + (gw n f (l.drop x.1.toNat) (rg x.2.1) : Nat))) (fun x hx => by
 have := h (l.take x.1.toNat) (l.drop x.1.toNat) (rg x.2.1) x.2.2.toNat (by rw [List.length_drop]; have := hx.d; omega) hx.w
 unfold gG relO at this
 rw [← hx.r, List.length_take, show min x.1.toNat l.length = x.1.toNat by have := hx.d; omega, Int.toNat_of_nonneg hx.i, Int.natCast_add, Int.toNat_of_nonneg hx.v] at this
 exact this)
noncomputable def L47_0 : Code := lp (bodyOf Try.f47) 0
def sA (a b : Nat) (j : Nat) : Nat := if j % 2 = 0 then a else b
def ps (n : Nat) (f : RF) (l : LP) (r : RF) (a b : Nat) : Nat → Nat
 | 0 => 0
 | j + 1 => ps n f l r a b j + hf n f l r (sA a b j) (sA b a j)
noncomputable abbrev X47 (n : Nat) (f : RF) (l : LP) (d : Nat) (h : GS n f l d) : Cy := Xm [e48, e49, e47 n f l d h] 6 (fun _ => none)
def st47 (n : Nat) (f : RF) (l l2 : LP) (r : RF) (v i a b : Nat) (j : Nat) : St := ⟨(.int .i64 i :: .dead :: .ptr 1 0 [] :: .dead :: .ptr 3 0 [] :: .ptr 5 0 [] :: .dead :: .int .i64 (sA a b j) :: .int .i64 (sA b a j) :: dd 18 ++ .int .i64 j :: dd 22), gG n f l r (v + ps n f l2 r a b j)⟩
def ex47 (n : Nat) (f : RF) (l l2 : LP) (r : RF) (v a b : Nat) : List (List Nat × Ex) := [([], ⟨0, Unit, fun _ => True, fun _ => ⟨(dd 50), gG n f l r (v + ps n f l2 r a b 2)⟩⟩)]
def h47 (n : Nat) (f : RF) (l l2 : LP) (r : RF) (v i a b : Nat) : Hint := ⟨chk 6 [0, 2, 4, 5, 7, 8, 27] (fun j => j ≤ 2) (st47 n f l l2 r v i a b), (ex47 n f l l2 r v a b).map (·.2)⟩
theorem spB_ext {n : Nat} (hn : n ≤ 7) {f g r s : RF} (hf : ∀ x y, x < 7 → y < 7 → f x y = g x y) (hr : ∀ x y, x < 7 → y < 7 → r x y = s x y) {a b : Nat} (ha : a < 7) (hb : b < 7) : spB n f r a b = spB n g s a b := by
 have e : ∀ c, c < 7 → spC f r a b c = spC g s a b c := fun c hc => by
   unfold spC
   rw [hf a c ha hc, hf c b hc hb, hr b c hb hc, hr c a hc ha]
 rw [Bool.eq_iff_iff]
 unfold spB
 rw [List.any_eq_true, List.any_eq_true]
 exact ⟨fun ⟨c, h1, h2⟩ => ⟨c, h1, by rw [← e c (by have := List.mem_range.mp h1; omega)]; exact h2⟩, fun ⟨c, h1, h2⟩ => ⟨c, h1, by rw [e c (by have := List.mem_range.mp h1; omega)]; exact h2⟩⟩
theorem upd_ext {r s : RF} (hr : ∀ x y, x < 7 → y < 7 → r x y = s x y) (a b : Nat) (v : Bool) : ∀ x y, x < 7 → y < 7 → upd r a b v x y = upd s a b v x y := fun x y hx hy => by unfold upd; rw [hr x y hx hy]
theorem gw_ext {n : Nat} (hn : n ≤ 7) {f g : RF} (hf : ∀ x y, x < 7 → y < 7 → f x y = g x y) : ∀ {l : LP} {r s : RF}, (∀ y, y ∈ l → (0 ≤ y.1 ∧ y.1 < 7) ∧ (0 ≤ y.2 ∧ y.2 < 7)) → (∀ x y, x < 7 → y < 7 → r x y = s x y) → gw n f l r = gw n g l s
 | [], r, s, _, hr => by rw [gw, gw, trB_ext hr]
 | e :: l, r, s, hl, hr => by
   have h0 := hl e (by simp)
   have hl' := fun y (hy : y ∈ l) => hl y (by simp [hy])
   rw [gw, gw, gw_ext hn hf hl' (upd_ext hr _ _ _), gw_ext hn hf hl' (upd_ext hr _ _ _)]
   unfold sp1
   rw [spB_ext hn hf (upd_ext hr _ _ _) (by omega) (by omega), spB_ext hn hf (upd_ext hr _ _ _) (by omega) (by omega)]
theorem sA_cases {a b j : Nat} (hj : j < 2) : (j = 0 ∧ sA a b j = a ∧ sA b a j = b) ∨ (j = 1 ∧ sA a b j = b ∧ sA b a j = a) := by
 rcases show j = 0 ∨ j = 1 by omega with rfl | rfl
 · exact .inl ⟨rfl, rfl, rfl⟩
 · exact .inr ⟨rfl, rfl, rfl⟩
theorem hf_le (n : Nat) (f : RF) (l : LP) (r : RF) (a b : Nat) : hf n f l r a b ≤ 2 ^ l.length := by
 unfold hf
 split
 · exact Nat.zero_le _
 · exact gw_le n f l _
theorem upd_back {r : RF} {a b : Nat} (h : r a b = false) : mkR (upd (upd r a b true) a b false) = mkR r := mkR_ext fun x y _ _ => by
 unfold upd
 by_cases e : x = a ∧ y = b
 · rw [if_pos e, e.1, e.2, h]
 · rw [if_neg e, if_neg e]
theorem okW_next {n : Nat} {f : RF} {l l1 l2 : LP} {e : PA} {r : RF} {v w A B : Nat} (hw : okW n f l l1 (e :: l2) r v) (hAB : (A = e.1.toNat ∧ B = e.2.toNat) ∨ (A = e.2.toNat ∧ B = e.1.toNat)) (hv : w + 2 ^ l2.length ≤ 1000000000) : okW n f l (l1 ++ [e]) l2 (upd r A B true) w := by
 have h0 := hw.h2 e (by simp)
 have hnd := List.pairwise_cons.mp hw.nd
 refine ⟨hw.n1, hw.hn, by rw [hw.e]; simp, fun y hy => ?_, hnd.2, hw.hl, hv⟩
 obtain ⟨g1, g2, g3, g4, g5⟩ := hw.h2 y (by simp [hy])
 have gn := hnd.1 y hy
 refine ⟨g1, g2, g3, ?_, ?_⟩
 · unfold upd; rw [if_neg (by omega)]; exact g4
 · unfold upd; rw [if_neg (by omega)]; exact g5
theorem loop47 (n : Nat) (f : RF) (l : LP) (d : Nat) (h : GS n f l d) (l1 l2 : LP) (e : PA) (r : RF) (v : Nat) (hd : l2.length = d) (hw : okW n f l l1 (e :: l2) r v) (R : Exit → St → Prop) : LoopOK (X47 n f l d h) L47_0 (h47 n f l l2 r v l1.length e.1.toNat e.2.toNat) R := by
 refine loop_ok (Xm_ok _ _ _) (H := fun _ _ => none) [0, 2, 4, 5, 7, 8, 27] (fun j => j ≤ 2) (st47 n f l l2 r v l1.length e.1.toNat e.2.toNat) (fun j => 2 - j) (ex47 n f l l2 r v e.1.toNat e.2.toNat) 250 fun (j : Nat) hj => ?_
 refine of_eq (q := (fun (A : Nat) => (fun (z : Int) => (fun (x : Rl) => (fun (u : Int) => (fun (t : Rl) => (fun (p : Nat) => (fun (o : Nat) => (fun (m : List Bool) => (fun (k : Int) => (fun (E : Int) => (fun (i : Prop) => (fun (w : Prop) => (fun (h : Int) => (fun (g : Nat) => (fun (q : Int) => (fun (D : Prop) => (fun (c : Prop) => (fun (b : Nat) => (fun (s : Int) => (fun (C : Prop) => (fun (a : List (List Bool)) => (fun (B : Prop) => i ∧ ((j : Int) < 2 → i ∧ i ∧ C ∧ D ∧ i ∧ i ∧ i ∧ i ∧ i ∧ ((ok49 ((z, t), a, s, q) ∧ (i ∧ a = a ∧ s = s ∧ q = q ∧ i) ∧ (z = z ∧ t = t ∧ i) ∧ i) ∧ i ∧ i) ∧ i ∧ ((!spB n (rg t) (rg a) b g) = true → i ∧ i ∧ inR .i64 E ∧ ((ok47 n f l d (E, a, h) ∧ (E = E ∧ w) ∧ l = l ∧ a = a ∧ h = h ∧ c) ∧ i ∧ w) ∧ i ∧ i ∧ C ∧ D ∧ i ∧ i ∧ i ∧ i ∧ i ∧ inR .i64 u ∧ i ∧ ∃ (y : Nat), (y ≤ A ∧ A - y < A - j) ∧ (k = k ∧ i ∧ i ∧ i ∧ q = (↑(sA p o y) : Int) ∧ s = (↑(sA o p y) : Int) ∧ u = (y : Int) ∧ i) ∧ l = l ∧ B ∧ h + (↑(gw n f (List.drop (List.length l1 + 1) l) (rg a)) : Int) = (v : Int) + (↑(ps n f l2 r p o y) : Int) ∧ c) ∧ ((!spB n (rg t) (rg a) b g) = false → i ∧ i ∧ C ∧ D ∧ i ∧ i ∧ i ∧ i ∧ i ∧ inR .i64 u ∧ i ∧ ∃ (y : Nat), (y ≤ A ∧ A - y < A - j) ∧ (k = k ∧ i ∧ i ∧ i ∧ q = (↑(sA p o y) : Int) ∧ s = (↑(sA o p y) : Int) ∧ u = (y : Int) ∧ i) ∧ l = l ∧ B ∧ h = (v : Int) + (↑(ps n f l2 r p o y) : Int) ∧ c)) ∧ (¬(j : Int) < 2 → ∃ (y : Unit), i ∧ i ∧ l = l ∧ x = x ∧ h = (v : Int) + (↑(ps n f l2 r p o A) : Int) ∧ c)) (a.set b (List.set (a.getD b m) g false) = x)) (List.set x b (List.set (List.getD x b m) g true))) (idxPre s (7 : Nat))) ((b : Int))) (sA p o j)) (i ∧ (z = z ∧ t = t ∧ i) ∧ (i ∧ w) ∧ i)) (idxPre q (7 : Nat))) ((g : Int))) (sA o p j)) ((v : Int) + (↑(ps n f l2 r p o j) : Int))) (i ∧ i ∧ i ∧ i ∧ i ∧ i)) (True)) (k + 1)) ((↑(List.length l1) : Int))) ([false, false, false, false, false, false, false])) (e.snd.toNat)) (e.fst.toNat)) (mkR f)) ((j : Int) + 1)) (mkR r)) ((n : Int))) ((2 : Nat))) (by kernel_rfl) ?_
 simp only [zz]
 obtain ⟨g1, g2, g3, g4, g5⟩ := hw.h2 e (by simp)
 have hv := hw.v
 have hn := hw.hn
 have hpl : 2 ^ (e :: l2).length = 2 ^ l2.length + 2 ^ l2.length := by rw [List.length_cons, Nat.pow_succ]; omega
 have hps : ∀ i, i ≤ 2 → ps n f l2 r e.1.toNat e.2.toNat i ≤ i * 2 ^ l2.length := fun i => by
   induction i with
   | zero => intro _; exact Nat.zero_le _
   | succ i ih =>
     intro hi
     have := ih (by omega)
     have := hf_le n f l2 r (sA e.1.toNat e.2.toNat i) (sA e.2.toNat e.1.toNat i)
     rw [ps, Nat.succ_mul]; omega
 refine ⟨fun h1 => ?_, fun h1 => by rw [show j = 2 by omega]⟩
 have h1 : j < 2 := by omega
 have hp := hps j hj
 have hstep : ps n f l2 r e.1.toNat e.2.toNat (j + 1) = ps n f l2 r e.1.toNat e.2.toNat j + hf n f l2 r (sA e.1.toNat e.2.toNat j) (sA e.2.toNat e.1.toNat j) := rfl
 have hsw : sA e.2.toNat e.1.toNat j = sA e.1.toNat e.2.toNat (j + 1) ∧ sA e.1.toNat e.2.toNat j = sA e.2.toNat e.1.toNat (j + 1) := by
   rcases show j = 0 ∨ j = 1 by omega with rfl | rfl <;> exact ⟨rfl, rfl⟩
 have hAB : (sA e.1.toNat e.2.toNat j = e.1.toNat ∧ sA e.2.toNat e.1.toNat j = e.2.toNat) ∨ (sA e.1.toNat e.2.toNat j = e.2.toNat ∧ sA e.2.toNat e.1.toNat j = e.1.toNat) := by
   rcases sA_cases (a := e.1.toNat) (b := e.2.toNat) h1 with ⟨_, h⟩ | ⟨_, h⟩
   · exact .inl h
   · exact .inr h
 rw [hsw.1, hsw.2]
 rw [hsw.1, hsw.2] at hAB hstep
 generalize eB : sA e.1.toNat e.2.toNat (j + 1) = B at hAB hstep ⊢
 generalize eA : sA e.2.toNat e.1.toNat (j + 1) = A at hAB hstep ⊢
 have hA : A < 7 := by omega
 have hB : B < 7 := by omega
 have hr0 : r A B = false := by
   rcases hAB with ⟨rfl, rfl⟩ | ⟨rfl, rfl⟩
   · exact g4
   · exact g5
 have hlen : l.length = l1.length + (l2.length + 1) := by rw [hw.e]; simp
 have hll := hw.hl
 have hmul : j * 2 ^ l2.length + 2 ^ l2.length ≤ 2 ^ l2.length + 2 ^ l2.length := by
   generalize 2 ^ l2.length = P
   rcases show j = 0 ∨ j = 1 by omega with rfl | rfl
   · omega
   · omega
 have edr : l.drop (l1.length + 1) = l2 := by rw [hw.e, show l1 ++ e :: l2 = (l1 ++ [e]) ++ l2 by simp]; exact List.drop_left' (by simp)
 have etk : l.take (l1.length + 1) = l1 ++ [e] := by rw [hw.e, show l1 ++ e :: l2 = (l1 ++ [e]) ++ l2 by simp]; exact List.take_left' (by simp)
 rw [mkR_set hA, mkR_set hA, edr, upd_back hr0]
 have eg1 : gw n f l2 (rg (mkR (upd r A B true))) = gw n f l2 (upd r A B true) := gw_ext hn (fun _ _ _ _ => rfl) (fun y hy => by have := hw.h2 y (by simp [hy]); exact ⟨this.1, this.2.1⟩) rgm
 have esp : spB n (rg (mkR f)) (rg (mkR (upd r A B true))) A B = sp1 n f r A B := spB_ext hn rgm rgm hA hB
 rw [eg1, esp]
 have iA := i7 hA
 have iB := i7 hB
 refine ⟨iA, iB, ⟨okG_mk hw.n1 hn f, mk_rg _, by simp only; omega, by simp only; omega⟩, fun h2 => ?_, fun h2 => ⟨iA, iB, in1 (by omega), j + 1, ⟨by omega, by omega⟩, ⟨by rw [eB], by rw [eA], by omega⟩, ?_⟩⟩
 · have h2 := nt1 h2
   unfold hf at hstep
   rw [if_neg (by rw [h2]; decide)] at hstep
   have hpos : 0 < 2 ^ l2.length := Nat.two_pow_pos _
   have hwv : v + ps n f l2 r e.1.toNat e.2.toNat j + 2 ^ l2.length ≤ 1000000000 := by omega
   have hwn := okW_next hw hAB (v := v) (w := v + ps n f l2 r e.1.toNat e.2.toNat j) hwv
   generalize 2 ^ l2.length = P at hpos hwv
   clear hv hpl hmul hps hp
   refine ⟨by simp only [inR]; omega, ⟨by simp only; omega, ?_, mk_rg _, by simp only; omega, ?_⟩, iA, iB, in1 (by omega), j + 1, ⟨by omega, by omega⟩, ⟨by rw [eB], by rw [eA], by omega⟩, rfl, by rw [hstep]; omega⟩
   · simp only; omega
   · simp only
     rw [show ((l1.length : Int) + 1).toNat = l1.length + 1 by omega, edr, etk, show ((v : Int) + (ps n f l2 r e.1.toNat e.2.toNat j : Nat)).toNat = v + ps n f l2 r e.1.toNat e.2.toNat j by omega]
     refine ⟨hwn.n1, hwn.hn, hwn.e, fun y hy => ?_, hwn.nd, hwn.hl, hwn.v⟩
     obtain ⟨k1, k2, k3, k4, k5⟩ := hwn.h2 y hy
     rw [rg_mk (by omega) (by omega), rg_mk (by omega) (by omega)]
     exact ⟨k1, k2, k3, k4, k5⟩
 · have h2 := nt0 h2
   unfold hf at hstep
   rw [if_pos h2] at hstep
   exact ⟨rfl, by rw [hstep]; omega⟩
theorem call47Z (n : Nat) (f : RF) (l : LP) : GS n f l 0 := by
 intro l1 l2 r v hd hw
 refine gcall_of (X := (Xm [e48] 6 (fun _ => none))) ((Xm_ok _ _ _)) (f := 47) (fn := Try.f47) (c := bodyOf Try.f47) (by kernel_rfl) (by kernel_rfl) (view := false) (rvs := []) (by kernel_rfl) (H := fun _ => none) 150 (by kernel_rfl) ?_
 refine of_eq (q := (fun (e : Int) => (fun (d : Int) => (fun (c : Prop) => (fun (b : Rl) => (fun (a : Prop) => c ∧ c ∧ c ∧ c ∧ (d = (↑(List.length l) : Int) → c ∧ (b = mkR (rg b) ∧ c) ∧ (trB (rg b) = true → c ∧ inR .i64 ((v : Int) + 1) ∧ c ∧ c ∧ c ∧ l = l ∧ b = b ∧ (v : Int) + 1 = e ∧ a) ∧ (trB (rg b) = false → c ∧ c ∧ l = l ∧ b = b ∧ (v : Int) = e ∧ a)) ∧ (¬d = (↑(List.length l) : Int) → c ∧ c ∧ idxPre d (List.length l) ∧ idxPre (0 : Int) (2 : Nat) ∧ c ∧ c ∧ c ∧ idxPre d (List.length l) ∧ idxPre (1 : Int) (2 : Nat) ∧ c ∧ c ∧ c ∧ c ∧ False)) (c ∧ ((n : Int) = (n : Int) ∧ mkR f = mkR f ∧ c) ∧ (c ∧ c ∧ c ∧ c ∧ c ∧ c ∧ c) ∧ c)) (mkR r)) (True)) ((↑(List.length l1) : Int))) ((v : Int) + (↑(gw n f l2 r) : Int))) (by kernel_rfl) ?_
 simp only [zz]
 have e2 : l2 = [] := List.length_eq_zero_iff.mp hd
 have hv := hw.v
 have hlen : l.length = l1.length := by rw [hw.e, e2]; simp
 subst e2
 rw [trB_ext (rgm (f := r)), gw]
 rw [List.length_nil] at hv
 refine ⟨fun _ => ⟨mk_rg r, fun h => ?_, fun h => ?_⟩, fun h => by omega⟩
 · rw [if_pos h]; exact ⟨by simp only [inR]; omega, by omega⟩
 · rw [if_neg (by rw [h]; decide)]; omega
theorem call47S (n : Nat) (f : RF) (l : LP) (d : Nat) (h : GS n f l d) : GS n f l (d + 1) := by
 intro l1 l2 r v hd hw
 match l2, hd, hw with
 | e :: l2, hd, hw =>
   refine gcall_of (X := (X47 n f l d h)) ((Xm_ok _ _ _)) (f := 47) (fn := Try.f47) (c := bodyOf Try.f47) (by kernel_rfl) (by kernel_rfl) (view := false) (rvs := []) (by kernel_rfl) (H := (fun _ => some (h47 n f l l2 r v l1.length e.1.toNat e.2.toNat))) 150 (by kernel_rfl) ?_
   have hL := fun R => loop47 n f l d h l1 l2 e r v (by simpa using hd) hw R
   refine of_eq (q := (fun (o : Int × Int) => (fun (m : Nat) => (fun (k : Nat) => (fun (j : Int) => (fun (i : Int) => (fun (g : Prop) => (fun (c : Int) => (fun (b : Rl) => (fun (a : Prop) => g ∧ g ∧ g ∧ g ∧ (c = (↑(List.length l) : Int) → g ∧ (b = mkR (rg b) ∧ g) ∧ (trB (rg b) = true → g ∧ inR .i64 (j + 1) ∧ g ∧ g ∧ g ∧ l = l ∧ b = b ∧ j + 1 = i ∧ a) ∧ (trB (rg b) = false → g ∧ g ∧ l = l ∧ b = b ∧ j = i ∧ a)) ∧ (¬c = (↑(List.length l) : Int) → g ∧ g ∧ idxPre c (List.length l) ∧ idxPre (0 : Int) (2 : Nat) ∧ g ∧ g ∧ g ∧ idxPre c (List.length l) ∧ idxPre (1 : Int) (2 : Nat) ∧ g ∧ g ∧ g ∧ g ∧ LoopOK (X47 n f l d h) L47_0 (h47 n f l l2 r v (List.length l1) k m) (RetR (X47 n f l d h) false false [] [] (gG n f l r (v + gw n f (e :: l2) r))) ∧ (∃ (y : Nat), y ≤ 2 ∧ (c = c ∧ g ∧ g ∧ g ∧ o.fst = (↑(sA k m y) : Int) ∧ o.snd = (↑(sA m k y) : Int) ∧ (0 : Int) = (y : Int) ∧ g) ∧ l = l ∧ b = b ∧ j = j + (↑(ps n f l2 r k m y) : Int) ∧ a) ∧ (∀ (y : Unit), g → g ∧ g ∧ l = l ∧ b = b ∧ j + (↑(ps n f l2 r k m (2 : Nat)) : Int) = i ∧ a) ∧ g)) (g ∧ ((n : Int) = (n : Int) ∧ mkR f = mkR f ∧ g) ∧ (g ∧ g ∧ g ∧ g ∧ g ∧ g ∧ g) ∧ g)) (mkR r)) ((↑(List.length l1) : Int))) (True)) (j + (↑(gw n f (e :: l2) r) : Int))) ((v : Int))) (e.fst.toNat)) (e.snd.toNat)) (List.getD l (List.length l1) ((0 : Int), (0 : Int)))) (by kernel_rfl) ?_
   simp only [zz]
   have hlen : l.length = l1.length + (l2.length + 1) := by rw [hw.e]; simp
   have hg : l.getD l1.length (0, 0) = e := by rw [hw.e, List.getD_eq_getElem?_getD, List.getElem?_append_right (Nat.le_refl _)]; simp
   obtain ⟨g1, g2, _⟩ := hw.h2 e (by simp)
   rw [hg]
   refine ⟨fun h => by omega, fun _ => ⟨by unfold idxPre; omega, i02, by unfold idxPre; omega, i12, hL _, ⟨0, by omega, ⟨by show e.1 = (e.1.toNat : Int); omega, by show e.2 = (e.2.toNat : Int); omega, rfl⟩, by simp [ps]⟩, fun _ _ => ?_⟩⟩
   rw [gw, ps, ps, ps]
   unfold hf
   rw [Nat.zero_add]; try rfl
theorem GS_all (n : Nat) (f : RF) (l : LP) : ∀ d, GS n f l d
 | 0 => call47Z n f l
 | d + 1 => call47S n f l d (GS_all n f l d)
/-- The number of orders. -/
def ctN (n : Nat) (l : LP) : Nat := gw n (eg l) (L46 n (eg l)) zf
theorem L46_mem {n : Nat} {f : RF} {y : PA} : y ∈ L46 n f ↔ ∃ a b : Nat, y = ((a : Int), (b : Int)) ∧ a < b ∧ b < n ∧ b < 7 ∧ f a b = true := by
 unfold L46
 rw [prK_mem (by decide)]
 constructor
 · rintro ⟨a, b, h1, h2, h3, h4⟩
   simp only [P46, Bool.and_eq_true, decide_eq_true_eq] at h4
   exact ⟨a, b, h1, h4.1.1, h4.1.2, h2, h4.2⟩
 · rintro ⟨a, b, h1, h2, h3, h5, h4⟩
   exact ⟨a, b, h1, h5, by omega, by unfold P46; rw [decide_eq_true h2, decide_eq_true h3, h4]; rfl⟩
theorem prK_nd {P : RF} {w : Nat} (hw : 0 < w) : ∀ q, (prK P w q).Nodup
 | 0 => by simp [prK]
 | q + 1 => by
   have ih := prK_nd (P := P) hw q
   rw [prK]
   split
   · rw [List.nodup_append]
     refine ⟨ih, by simp, fun a ha b hb e => ?_⟩
     rw [List.mem_singleton] at hb
     rw [e, hb] at ha
     obtain ⟨i, j, h1, h2, h3, _⟩ := (prK_mem hw).mp ha
     have hq : q / w * w + q % w = q := by rw [Nat.mul_comm]; exact Nat.div_add_mod q w
     have e1 : q / w = i := by have := congrArg Prod.fst h1; simp only at this; omega
     have e2 : q % w = j := by have := congrArg Prod.snd h1; simp only at this; omega
     rw [e1, e2] at hq
     omega
   · exact ih
theorem tri_len {P : RF} (hP : ∀ x y, P x y = true → x < y) : (prK P 7 49).length ≤ 21 := by
 have h1 := prK_le (P := fun x y => decide (x < y)) (Q := P) (w := 7) (fun x y h => decide_eq_true (hP x y h)) 49
 have h2 : (prK (fun x y => decide (x < y)) 7 49).length = 21 := by decide +kernel
 omega
theorem okW_0 {n : Nat} (n1 : 1 ≤ n) (hn : n ≤ 7) (f : RF) : okW n f (L46 n f) [] (L46 n f) zf 0 := by
 have hlen : (L46 n f).length ≤ 21 := tri_len fun x y h => by
   simp only [P46, Bool.and_eq_true, decide_eq_true_eq] at h
   exact h.1.1
 refine ⟨n1, hn, rfl, fun y hy => ?_, ?_, hlen, ?_⟩
 · obtain ⟨a, b, h1, h2, h3, _, _⟩ := L46_mem.mp hy
   rw [h1]
   refine ⟨?_, ?_, ?_, rfl, rfl⟩ <;> (simp only; omega)
 · have hnd := prK_nd (P := P46 n f) (w := 7) (by decide) 49
   refine List.Pairwise.imp_of_mem ?_ hnd
   intro y z hy hz hne
   obtain ⟨a, b, h1, h2, _⟩ := L46_mem.mp hy
   obtain ⟨c, d, h3, h4, _⟩ := L46_mem.mp hz
   rw [h1, h3]
   refine ⟨fun h => hne (by rw [h1, h3]; exact Prod.ext h.1 h.2), fun h => ?_⟩
   simp only at h
   omega
 · have := Nat.pow_le_pow_right (show 0 < 2 by omega) hlen
   omega
theorem call11 (n : Nat) (l : LP) (h : grOk n l) (h6 : n ≤ 6) : GCall Try.prog gl 11 false [.int .i64 n, .sl P2 l] [] [.int .i64 (ctN n l), .int .i64 0] [] := by
 refine gcall_of (X := (X [e45, e46, e47 n (eg l) (L46 n (eg l)) (L46 n (eg l)).length (GS_all _ _ _ _)])) ((X_ok _)) (f := 11) (fn := Try.f11) (c := bodyOf Try.f11) (by kernel_rfl) (by kernel_rfl) (view := false) (rvs := [.tmp 4, .tmp 5]) (by kernel_rfl) (H := fun _ => none) 150 (by kernel_rfl) ?_
 obtain ⟨n1, n2⟩ := h.hn
 refine of_eq (q := (fun (h : Int) => (fun (f : LP) => (fun (e : Int) => (fun (d : Rl) => (fun (c : Int) => (fun (b : Prop) => (fun (g : Prop) => (fun (a : List Bool) => (fun (i : List (List Bool)) => b ∧ b ∧ b ∧ b ∧ (grOk e l ∧ b) ∧ b ∧ b ∧ b ∧ b ∧ b ∧ b ∧ b ∧ b ∧ (¬c = c → b ∧ b ∧ b ∧ b ∧ (c = h ∧ c = c ∧ b) ∧ b) ∧ (¬¬c = c → b ∧ b ∧ ((6 : Int) < e → b ∧ b ∧ b ∧ (c = h ∧ (1 : Int) = c ∧ b) ∧ b) ∧ (¬(6 : Int) < e → b ∧ ((okG (e, d) ∧ (b ∧ b) ∧ (e = e ∧ d = d ∧ b) ∧ b) ∧ b ∧ b) ∧ b ∧ b ∧ b ∧ b ∧ b ∧ b ∧ b ∧ b ∧ b ∧ ((ok47 n (eg l) f (List.length f) (c, i, c) ∧ (c = c ∧ g) ∧ L46 n (rg d) = f ∧ i = i ∧ c = c ∧ b ∧ (e = e ∧ d = d ∧ b) ∧ (b ∧ g) ∧ b) ∧ b ∧ g) ∧ b ∧ b ∧ b ∧ b ∧ (c + (↑(gw n (eg l) (List.drop (0 : Nat) f) (rg i)) : Int) = h ∧ c = c ∧ b) ∧ b))) ([a, a, a, a, a, a, a])) ([false, false, false, false, false, false, false])) (b ∧ b ∧ b ∧ b ∧ b ∧ b)) (True)) ((0 : Int))) (mkR (eg l))) ((n : Int))) (L46 n (eg l))) ((↑(ctN n l) : Int))) (by kernel_rfl) ?_
 simp only [zz]
 have hw := okW_0 (n := n) (by omega) (by omega) (eg l)
 have eZ : ([w7, w7, w7, w7, w7, w7, w7] : Rl) = mkR zf := zR.symm
 have hrg : ∀ x y, x < 7 → y < 7 → rg [w7, w7, w7, w7, w7, w7, w7] x y = zf x y := by rw [eZ]; exact rgm
 have h2 : ∀ y, y ∈ L46 n (eg l) → (0 ≤ y.1 ∧ y.1 < 7) ∧ (0 ≤ y.2 ∧ y.2 < 7) := fun y hy => ⟨(hw.h2 y hy).1, (hw.h2 y hy).2.1⟩
 rw [L46_ext (rgm (f := eg l)), List.drop_zero, gw_ext (by omega) (fun _ _ _ _ => rfl) h2 hrg]
 refine ⟨h, fun h1 => absurd trivial h1, fun _ => ⟨fun h1 => by omega, fun _ => ⟨okG_mk (by omega) (by omega) _, ⟨⟨Int.le_refl _, by show (0 : Int).toNat + _ = _; simp, ?_, Int.le_refl _, ?_⟩, rfl⟩, by unfold ctN; omega⟩⟩⟩
 · show [w7, w7, w7, w7, w7, w7, w7] = mkR (rg [w7, w7, w7, w7, w7, w7, w7])
   rw [mkR_ext hrg]; exact eZ
 · show okW n (eg l) _ ((L46 n (eg l)).take 0) ((L46 n (eg l)).drop 0) (rg [w7, w7, w7, w7, w7, w7, w7]) 0
   refine ⟨hw.n1, hw.hn, rfl, fun y hy => ?_, hw.nd, hw.hl, hw.v⟩
   obtain ⟨k1, k2, k3, k4, k5⟩ := hw.h2 y hy
   rw [hrg _ _ (by omega) (by omega), hrg _ _ (by omega) (by omega)]
   exact ⟨k1, k2, k3, k4, k5⟩
theorem call11E (l : LP) (h : grOk 7 l) : GCall Try.prog gl 11 false [.int .i64 7, .sl P2 l] [] [.int .i64 0, .int .i64 1] [] := by
 refine gcall_of (X := (X [e45])) ((X_ok _)) (f := 11) (fn := Try.f11) (c := bodyOf Try.f11) (by kernel_rfl) (by kernel_rfl) (view := false) (rvs := [.tmp 4, .tmp 5]) (by kernel_rfl) (H := fun _ => none) 150 (by kernel_rfl) ?_
 refine of_eq (q := (fun (b : Int) => (fun (a : Prop) => a ∧ a ∧ a ∧ a ∧ (grOk (7 : Int) l ∧ a) ∧ a ∧ a ∧ a ∧ a ∧ a ∧ a ∧ a ∧ a ∧ (¬b = b → a ∧ a ∧ a ∧ a ∧ (b = b ∧ b = 1 ∧ a) ∧ a) ∧ (¬¬b = b → a ∧ a ∧ ((6 : Int) < 7 → a ∧ a ∧ a ∧ (b = b ∧ (1 : Int) = 1 ∧ a) ∧ a) ∧ (¬(6 : Int) < 7 → a ∧ False))) (True)) ((0 : Int))) (by kernel_rfl) ?_
 simp only [zz]
 exact ⟨h, fun h => absurd trivial h, fun _ => ⟨fun _ => trivial, fun h => by omega⟩⟩
end Go.Am.Or

/- Orders: entries; lists that are the same; awake. -/
namespace Go.Am.Or
open Go Go.Am Go.Proofs
theorem toN {n : Int} {l : LP} (h : grOk n l) : ((n.toNat : Nat) : Int) = n := by have := h.hn; omega
theorem toO {n : Int} {l : LP} (h : orOk n l) : ((n.toNat : Nat) : Int) = n := by have := h.hn; omega
def e24 : Entry Try.prog gl := entry2 24 ⟨Try.f24, by kernel_rfl, by kernel_rfl, by kernel_rfl⟩ I64 SP (fun (n : Int) l => grOk n l) false (fun (n : Int) l => [.sl P2 (orL n.toNat l), .bool (orR n.toNat (eg l)).2, .int .i64 0]) (fun _ _ => []) (fun (n : Int) l h => by have := call24 n.toNat l (by rw [toN h]; exact h); rwa [toN h] at this)
def e25 : Entry Try.prog gl := entry2 25 ⟨Try.f25, by kernel_rfl, by kernel_rfl, by kernel_rfl⟩ I64 SP (fun (n : Int) l => grOk n l) false (fun (n : Int) l => [.sl P2 (ckL n.toNat l), .bool (ckB n.toNat l), .int .i64 0]) (fun _ _ => []) (fun (n : Int) l h => by have := call25 n.toNat l (by rw [toN h]; exact h); rwa [toN h] at this)
def e11 : Entry Try.prog gl := entry2 11 ⟨Try.f11, by kernel_rfl, by kernel_rfl, by kernel_rfl⟩ I64 SP (fun (n : Int) l => grOk n l ∧ n ≤ 6) false (fun (n : Int) l => [.int .i64 (ctN n.toNat l), .int .i64 0]) (fun _ _ => []) (fun (n : Int) l h => by have := call11 n.toNat l (by rw [toN h.1]; exact h.1) (by have := h.2; omega); rwa [toN h.1] at this)
def e32 : Entry Try.prog gl := entry2 32 ⟨Try.f32, by kernel_rfl, by kernel_rfl, by kernel_rfl⟩ I64 SP (fun (n : Int) l => orOk n l) false (fun (n : Int) l => [.sl I64 (lyS (adL zf l) n.toNat n.toNat), .int .i64 0]) (fun _ _ => []) (fun (n : Int) l h => by have := call32 n.toNat l (by rw [toO h]; exact h); rwa [toO h] at this)
def e20 : Entry Try.prog gl := entry2 20 ⟨Try.f20, by kernel_rfl, by kernel_rfl, by kernel_rfl⟩ I64 (.a2 SI) (fun n l => ok60 n l) false (fun n l => [.sl P2 (dnL n l), .int .i64 (cmE n (l : List Int × List Int).1 l.2)]) (fun _ _ => []) call20
def e21 : Entry Try.prog gl := entry2 21 ⟨Try.f21, by kernel_rfl, by kernel_rfl, by kernel_rfl⟩ I64 (.a2 SI) (fun n l => ok60 n l) false (fun n l => [.sl P2 (cnL n l), .int .i64 (cmE n (l : List Int × List Int).1 l.2)]) (fun _ _ => []) call21
noncomputable def L51_0 : Code := lp (bodyOf Try.f51) 0
def st51 (l m : List Int) (i : Nat) : St := ⟨(.sl I64 l :: .sl I64 m :: dd 3 ++ .int .i64 i :: dd 20), []⟩
def ex51 (l m : List Int) : List (List Nat × Ex) := [([], ⟨0, Unit, fun _ => l = m, fun _ => ⟨(dd 26), []⟩⟩)]
def h51 (l m : List Int) : Hint := ⟨chk 0 [0, 1, 5] (fun i => i ≤ l.length ∧ l.take i = m.take i) (st51 l m), (ex51 l m).map (·.2)⟩
theorem loop51 (l m : List Int) (hl : l.length < 1000000000000000) (he : l.length = m.length) : LoopOK (X []) L51_0 (h51 l m) (RetR (X []) true false [.tmp 4] [.bool (decide (l = m))] []) := by
 refine loop_ok (X_ok _) (H := fun _ _ => none) [0, 1, 5] (fun i => i ≤ l.length ∧ l.take i = m.take i) (st51 l m) (fun i => l.length - i) (ex51 l m) 200 fun (i : Nat) hi => ?_
 refine of_eq (q := (fun (c : Prop) => (fun (b : Prop) => (fun (a : Int) => b ∧ b ∧ b ∧ b ∧ (a < (l.length : Int) → b ∧ b ∧ idxPre a l.length ∧ b ∧ b ∧ b ∧ idxPre a m.length ∧ b ∧ b ∧ (c → b ∧ b ∧ (false = decide (l = m) ∧ b) ∧ b) ∧ (¬c → b ∧ inR .i64 (a + 1) ∧ b ∧ ∃ (y : Nat), ((y ≤ l.length ∧ List.take y l = List.take y m) ∧ l.length - y < l.length - i) ∧ (l = l ∧ m = m ∧ a + 1 = (y : Int) ∧ b) ∧ b)) ∧ (¬a < (l.length : Int) → ∃ (y : Unit), l = m ∧ b ∧ b)) ((i : Int))) (True)) (¬l.getD i (0 : Int) = m.getD i (0 : Int))) (by kernel_rfl) ?_
 simp only [zz]
 obtain ⟨i1, i2⟩ := hi
 refine ⟨fun h1 => ?_, fun h1 => by rwa [List.take_of_length_le (by omega), List.take_of_length_le (by omega)] at i2⟩
 have h1 : i < l.length := by omega
 refine ⟨idx_nat h1, idx_nat (by omega), fun h2 => (decide_eq_false fun e => h2 (by rw [e])).symm, fun h2 => ⟨by simp only [inR]; omega, i + 1, ⟨⟨by omega, ?_⟩, by omega⟩, by omega⟩⟩
 have h2 : l.getD i 0 = m.getD i 0 := Classical.not_not.mp h2
 rw [take_getD (d := 0) h1, take_getD (d := 0) (show i < m.length by omega), i2, h2]
theorem call51 (l m : List Int) (hl : (l : List Int).length < 1000000000000000) : GCall Try.prog gl 51 true [.sl I64 l, .sl I64 m] [] [.bool (decide (l = m))] [] := by
 refine gcall_of (X := (X [])) ((X_ok _)) (f := 51) (fn := Try.f51) (c := bodyOf Try.f51) (by kernel_rfl) (by kernel_rfl) (view := false) (rvs := [.tmp 4]) (by kernel_rfl) (H := (fun _ => some (h51 l m))) 150 (by kernel_rfl) ?_
 have hL := loop51 l m hl
 refine of_eq (q := (fun (c : Prop) => (fun (b : Bool) => (fun (a : Prop) => a ∧ a ∧ a ∧ a ∧ a ∧ a ∧ (c → a ∧ a ∧ (false = b ∧ a) ∧ a) ∧ (¬c → a ∧ LoopOK (X []) L51_0 (h51 l m) (RetR (X []) true false [ResultVar.tmp (4 : Tmp)] [AV.bool b] []) ∧ (∃ (y : Nat), (y ≤ l.length ∧ List.take y l = List.take y m) ∧ (l = l ∧ m = m ∧ (0 : Int) = (y : Int) ∧ a) ∧ a) ∧ (∀ (y : Unit), l = m → a ∧ a ∧ (true = b ∧ a) ∧ a) ∧ a)) (True)) (decide (l = m))) (¬(l.length : Int) = (m.length : Int))) (by kernel_rfl) ?_
 simp only [zz]
 exact ⟨fun h => (decide_eq_false fun e => h (by rw [e])).symm, fun h => ⟨hL (by omega), ⟨0, ⟨Nat.zero_le _, rfl⟩, rfl⟩, fun _ h => (decide_eq_true h).symm⟩⟩
def e51 : Entry Try.prog gl := entry2 51 ⟨Try.f51, by kernel_rfl, by kernel_rfl, by kernel_rfl⟩ SI SI (fun l _ => (l : List Int).length < 1000000000000000) true (fun (l m : List Int) => [.bool (decide (l = m))]) (fun _ _ => []) (call51)
noncomputable def L18_0 : Code := lp (bodyOf Try.f18) 0
def st18 (l m : LP) (i : Nat) : St := ⟨(.sl P2 l :: .sl P2 m :: dd 3 ++ .int .i64 i :: dd 20), []⟩
def ex18 (l m : LP) : List (List Nat × Ex) := [([], ⟨0, Unit, fun _ => l = m, fun _ => ⟨(dd 26), []⟩⟩)]
def h18 (l m : LP) : Hint := ⟨chk 0 [0, 1, 5] (fun i => i ≤ l.length ∧ l.take i = m.take i) (st18 l m), (ex18 l m).map (·.2)⟩
theorem loop18 (l m : LP) (hl : l.length < 1000000000000000) (he : l.length = m.length) : LoopOK (X []) L18_0 (h18 l m) (RetR (X []) true false [.tmp 4] [.bool (decide (l = m))] []) := by
 refine loop_ok (X_ok _) (H := fun _ _ => none) [0, 1, 5] (fun i => i ≤ l.length ∧ l.take i = m.take i) (st18 l m) (fun i => l.length - i) (ex18 l m) 200 fun (i : Nat) hi => ?_
 refine of_eq (q := (fun (d : Prop) => (fun (c : Int × Int) => (fun (b : Int) => (fun (a : Prop) => d ∧ d ∧ d ∧ d ∧ (b < (↑(List.length l) : Int) → d ∧ d ∧ idxPre b (List.length l) ∧ d ∧ d ∧ d ∧ idxPre b (List.length m) ∧ d ∧ d ∧ (a → d ∧ d ∧ (false = decide (l = m) ∧ d) ∧ d) ∧ (¬a → d ∧ inR .i64 (b + 1) ∧ d ∧ ∃ (y : Nat), ((y ≤ List.length l ∧ List.take y l = List.take y m) ∧ List.length l - y < List.length l - i) ∧ (l = l ∧ m = m ∧ b + 1 = (y : Int) ∧ d) ∧ d)) ∧ (¬b < (↑(List.length l) : Int) → ∃ (y : Unit), l = m ∧ d ∧ d)) (¬((List.getD l i c).fst, (List.getD l i c).snd) = ((List.getD m i c).fst, (List.getD m i c).snd))) ((i : Int))) (((0 : Int), (0 : Int)))) (True)) (by kernel_rfl) ?_
 simp only [zz]
 obtain ⟨i1, i2⟩ := hi
 refine ⟨fun h1 => ?_, fun h1 => by rwa [List.take_of_length_le (by omega), List.take_of_length_le (by omega)] at i2⟩
 have h1 : i < l.length := by omega
 refine ⟨idx_nat h1, idx_nat (by omega), fun h2 => (decide_eq_false fun e => h2 (by rw [e])).symm, fun h2 => ⟨by simp only [inR]; omega, i + 1, ⟨⟨by omega, ?_⟩, by omega⟩, by omega⟩⟩
 have h2 : l.getD i (0, 0) = m.getD i (0, 0) := Classical.not_not.mp h2
 rw [take_getD (d := (0, 0)) h1, take_getD (d := (0, 0)) (show i < m.length by omega), i2, h2]
theorem call18 (l m : LP) (hl : (l : LP).length < 1000000000000000) : GCall Try.prog gl 18 true [.sl P2 l, .sl P2 m] [] [.bool (decide (l = m))] [] := by
 refine gcall_of (X := (X [])) ((X_ok _)) (f := 18) (fn := Try.f18) (c := bodyOf Try.f18) (by kernel_rfl) (by kernel_rfl) (view := false) (rvs := [.tmp 4]) (by kernel_rfl) (H := (fun _ => some (h18 l m))) 150 (by kernel_rfl) ?_
 have hL := loop18 l m hl
 refine of_eq (q := (fun (c : Bool) => (fun (b : Prop) => (fun (a : Prop) => b ∧ b ∧ b ∧ b ∧ b ∧ b ∧ (a → b ∧ b ∧ (false = c ∧ b) ∧ b) ∧ (¬a → b ∧ LoopOK (X []) L18_0 (h18 l m) (RetR (X []) true false [ResultVar.tmp (4 : Tmp)] [AV.bool c] []) ∧ (∃ (y : Nat), (y ≤ List.length l ∧ List.take y l = List.take y m) ∧ (l = l ∧ m = m ∧ (0 : Int) = (y : Int) ∧ b) ∧ b) ∧ (∀ (y : Unit), l = m → b ∧ b ∧ (true = c ∧ b) ∧ b) ∧ b)) (¬(↑(List.length l) : Int) = (↑(List.length m) : Int))) (True)) (decide (l = m))) (by kernel_rfl) ?_
 simp only [zz]
 exact ⟨fun h => (decide_eq_false fun e => h (by rw [e])).symm, fun h => ⟨hL (by omega), ⟨0, ⟨Nat.zero_le _, rfl⟩, rfl⟩, fun _ h => (decide_eq_true h).symm⟩⟩
def e18 : Entry Try.prog gl := entry2 18 ⟨Try.f18, by kernel_rfl, by kernel_rfl, by kernel_rfl⟩ SP SP (fun l _ => (l : LP).length < 1000000000000000) true (fun (l m : LP) => [.bool (decide (l = m))]) (fun _ _ => []) (call18)
instance (n : Int) (l : LP) (k : Nat) : Decidable (edOk n l k) := by unfold edOk lt2; infer_instance
instance (n : Int) (l : LP) (k : Nat) : Decidable (arOk n l k) := by unfold arOk lt2; infer_instance
theorem grOk_of {n : Int} {l : LP} (h : (1 ≤ n ∧ n ≤ 7) ∧ (∀ k, k < l.length → edOk n l k) ∧ l.length ≤ 1000) : grOk n l := ⟨h.1, h.2.1, h.2.2⟩
theorem orOk_of {n : Int} {l : LP} (h : (1 ≤ n ∧ n ≤ 7) ∧ (∀ k, k < l.length → arOk n l k) ∧ l.length ≤ 1000 ∧ trB (adL zf l) = true) : orOk n l := ⟨h.1, h.2.1, h.2.2.1, h.2.2.2⟩
abbrev ring : LP := [(0, 1), (0, 4), (1, 2), (2, 3), (3, 4)]
abbrev four : LP := [(0, 1), (0, 3), (1, 2), (2, 3)]
abbrev star : LP := [(0, 1), (0, 2), (0, 3)]
abbrev tw : List Int × List Int := ([0, 1, 2], [2, 0, 1])
theorem call13 : GCall Try.prog gl 13 true [] [] [.tt] [] := by
 have f1 : grOk 5 ring := grOk_of (by decide +kernel)
 have f2 : grOk 4 four := grOk_of (by decide +kernel)
 have f3 : orOk 4 star := orOk_of (by decide +kernel)
 have c1 : (ckL 5 ring).length = 6 := by decide +kernel
 have c2 : ckB 5 ring = true := by decide +kernel
 have c3 : (orR 5 (eg ring)).2 = false := by decide +kernel
 have c4 : ctN 4 four = 2 := by decide +kernel
 have c5 : lyS (adL zf star) 4 4 = [0, 1, 1, 1] := by decide +kernel
 have c6 : dnL 3 tw = [(0, 2), (1, 2)] := by decide +kernel
 have c7 : cmE 3 tw.1 tw.2 = 0 := by decide +kernel
 have c8 : cnL 3 tw = [(0, 1)] := by decide +kernel
 have o1 : ok60 3 tw := ⟨by decide, by decide⟩
 refine gcall_of (X := X [e25, e24, e11, e32, e20, e21, e51, e18]) (X_ok [e25, e24, e11, e32, e20, e21, e51, e18]) (f := 13) (fn := Try.f13) (c := bodyOf Try.f13) (by kernel_rfl) (by kernel_rfl) (view := false) (rvs := [.tmp 0]) (by kernel_rfl) (H := fun _ => none) 200 (by kernel_rfl) ?_
 refine of_eq (q := (fun (s : Int) => (fun (o : Prop) => (fun (m : Prop) => (fun (j : Int) => (fun (h : Int) => (fun (g : Int) => (fun (c : Int) => (fun (r : Prop) => (fun (l : List Int × List Int) => (fun (k : Prop) => (fun (e : Prop) => (fun (d : List (Int × Int)) => (fun (p : Prop) => (fun (b : Prop) => (fun (f : Prop) => (fun (n : Prop) => (fun (a : Prop) => (fun (i : Prop) => (fun (q : Prop) => b ∧ b ∧ b ∧ b ∧ b ∧ b ∧ b ∧ b ∧ b ∧ (grOk (5 : Int) d ∧ b) ∧ b ∧ b ∧ b ∧ b ∧ b ∧ b ∧ b ∧ b ∧ (grOk (5 : Int) d ∧ b) ∧ b ∧ b ∧ b ∧ b ∧ b ∧ b ∧ b ∧ b ∧ b ∧ b ∧ b ∧ b ∧ ((grOk s [(c, h), (c, j), (h, g), (g, j)] ∧ s ≤ 6) ∧ b) ∧ b ∧ b ∧ b ∧ b ∧ b ∧ b ∧ b ∧ b ∧ b ∧ (orOk s [(c, h), (c, g), (c, j)] ∧ b) ∧ b ∧ b ∧ b ∧ b ∧ b ∧ b ∧ b ∧ b ∧ (ok60 j l ∧ b) ∧ b ∧ b ∧ b ∧ b ∧ b ∧ b ∧ b ∧ b ∧ (ok60 j l ∧ b) ∧ b ∧ b ∧ b ∧ b ∧ b ∧ b ∧ b ∧ b ∧ (r → b ∧ b ∧ b ∧ (m → b ∧ b ∧ b ∧ b ∧ b ∧ (p → b ∧ b ∧ b ∧ b ∧ (r → b ∧ b ∧ b ∧ b ∧ (m → b ∧ b ∧ b ∧ b ∧ (r → b ∧ b ∧ b ∧ b ∧ (k → b ∧ b ∧ b ∧ b ∧ (r → b ∧ b ∧ ((lyS (adL zf [(c, h), (c, g), (c, j)]) (4 : Nat) (4 : Nat)).length + 1 ≤ 1000000000000000 ∧ b) ∧ b ∧ b ∧ (m → b ∧ b ∧ b ∧ b ∧ (e → b ∧ b ∧ b ∧ b ∧ (List.length (dnL j l) + 1 ≤ 1000000000000000 ∧ b) ∧ b ∧ b ∧ (m → b ∧ b ∧ b ∧ b ∧ (e → b ∧ b ∧ b ∧ (List.length (cnL j l) + 1 ≤ 1000000000000000 ∧ b) ∧ b ∧ b ∧ b ∧ (m ∧ b) ∧ b) ∧ (¬e → f)) ∧ (o → b ∧ b ∧ f)) ∧ (¬e → n)) ∧ (o → b ∧ b ∧ n)) ∧ (¬r → a)) ∧ (¬k → b ∧ b ∧ a)) ∧ (¬r → b ∧ b ∧ b ∧ b ∧ a)) ∧ (o → i)) ∧ (¬r → b ∧ b ∧ i)) ∧ (¬p → q)) ∧ (o → b ∧ b ∧ q)) ∧ (¬r → b ∧ b ∧ b ∧ b ∧ q)) (b ∧ b ∧ b ∧ b ∧ i)) (b ∧ b ∧ b ∧ b ∧ b ∧ b ∧ a)) (b ∧ b ∧ b ∧ b ∧ n)) (b ∧ b ∧ b ∧ b ∧ f)) (b ∧ b ∧ b ∧ (false = true ∧ b) ∧ b)) (True)) ((↑(List.length (ckL (5 : Nat) d)) : Int) = 6)) ([(c, h), (c, s), (h, g), (g, j), (j, s)])) (cmE j [c, h, g] [g, c, h] = c)) ((↑(ctN (4 : Nat) [(c, h), (c, j), (h, g), (g, j)]) : Int) = g)) (([c, h, g], [g, c, h]))) (c = c)) ((0 : Int))) ((2 : Int))) ((1 : Int))) ((3 : Int))) (true = true)) (true = false)) ((4 : Int))) (by kernel_rfl) ?_
 simp only [zz]
 refine ⟨f1, f1, ⟨f2, by decide⟩, f3, o1, o1, ?_⟩
 rw [c1, c4, c5, c6, c7, c8]
 simp
def e13 : Entry Try.prog gl where
 f := 13
 lend := false
 en := ⟨Try.f13, by kernel_rfl, by kernel_rfl, by kernel_rfl⟩
 go := fun args ob0 => match args, ob0 with
   | [], [] => some (True, true, [.tt], [])
   | _, _ => none
 ok := by
   intro args ob0 p s r o h hp
   split at h <;> try (cases h; done)
   injection h with h; injection h with h1 h2; injection h2 with h2 h3; injection h3 with h3 h4
   subst h1 h2 h3 h4
   exact call13
end Go.Am.Or

/- Orders: tame. -/
namespace Go.Am.Or
open Go Go.Am Go.Proofs
theorem u64_nn (x : Int) : 0 ≤ modU .u64 x := by
 show 0 ≤ x % 18446744073709551616
 omega
def tmc (m : Nat) (x : Int) : Int := (modU .u64 x).tmod m
theorem tmc_bd {m : Nat} (hm : 1 ≤ m) (x : Int) : 0 ≤ tmc m x ∧ tmc m x < m := ⟨Int.tmod_nonneg _ (u64_nn x), Int.tmod_lt_of_pos _ (by omega)⟩
noncomputable abbrev X10 : Cy := Xw [] fun t => Nat.beq t 15 || (Nat.beq t 48 || Nat.beq t 58)
def hiB (m : Nat) (l : LP) (a b i : Nat) : Bool := decide (minI (tmc m (l.getD i (0, 0)).1) (tmc m (l.getD i (0, 0)).2) = (a : Int)) && decide (maxI (tmc m (l.getD i (0, 0)).1) (tmc m (l.getD i (0, 0)).2) = (b : Int))
def hiT (m : Nat) (l : LP) (a b : Nat) : Bool := (List.range (min l.length 25)).any (hiB m l a b)
def tmM (n : Int) (most : Nat) : Nat := (1 + tmc most n).toNat
def tmL (m : Nat) (l : LP) : LP := L46 m (hiT m l)
theorem hiT_yes {m : Nat} {l : LP} {a b i : Nat} (h1 : i < l.length) (h2 : i < 25) (h : hiB m l a b i = true) : hiT m l a b = true := List.any_eq_true.mpr ⟨i, by simp; omega, h⟩
theorem hiT_no {m : Nat} {l : LP} {a b : Nat} (h : ∀ j, j < l.length → j < 25 → hiB m l a b j = false) : hiT m l a b = false := by
 unfold hiT
 rw [List.any_eq_false]
 intro j hj
 have hj := List.mem_range.mp hj
 rw [h j (by omega) (by omega)]; decide
noncomputable def L10_0 : Code := lp (bodyOf Try.f10) 0
noncomputable def L10_2 : Code := lp (bodyOf Try.f10) 2
noncomputable def L10_4 : Code := lp (bodyOf Try.f10) 4
abbrev PT (m : Nat) (l : LP) : RF := P46 m (hiT m l)
def cz10 (m : Nat) (l : LP) (a b i : Nat) : St := ⟨(.int .i64 m :: .sl P2 l :: dd 6 ++ nl :: .int .i64 a :: .int .i64 b :: .int .i64 i :: dd 71), []⟩
def ct10 (m : Nat) (l : LP) (a b i : Nat) : St := ⟨(.int .i64 m :: .sl P2 l :: dd 6 ++ .own 0 0 :: .int .i64 a :: .int .i64 b :: .int .i64 i :: dd 71), [.sc 0 52 P2 (prK (PT m l) 7 (a * 7 + b))]⟩
def bz10 (m : Nat) (l : LP) (a b : Nat) : St := ⟨(.int .i64 m :: .sl P2 l :: dd 6 ++ nl :: .int .i64 a :: .int .i64 b :: dd 72), []⟩
def bt10 (m : Nat) (l : LP) (a : Nat) (r : LP) (b : Nat) : St := ⟨(.int .i64 m :: .sl P2 l :: dd 6 ++ .own 0 0 :: .int .i64 a :: .int .i64 b :: dd 72), [.sc 0 52 P2 r]⟩
def noH (m : Nat) (l : LP) (a b i : Nat) : Prop := ∀ j, j < i → hiB m l a b j = false
def xcz (m : Nat) (l : LP) (a b : Nat) : List (List Nat × Ex) := [([0, 1, 8, 9, 10], ⟨4, Unit, fun _ => hiT m l a b = false, fun _ => bz10 m l a b⟩), ([0, 1, 8, 9, 10], ⟨4, Unit, fun _ => hiT m l a b = true, fun _ => bt10 m l a [((a : Int), (b : Int))] b⟩)]
def xct (m : Nat) (l : LP) (a b : Nat) : List (List Nat × Ex) := [([0, 1, 8, 9, 10], ⟨4, Unit, fun _ => hiT m l a b = false, fun _ => bt10 m l a (prK (PT m l) 7 (a * 7 + b)) b⟩), ([0, 1, 8, 9, 10], ⟨4, Unit, fun _ => hiT m l a b = true, fun _ => bt10 m l a (prK (PT m l) 7 (a * 7 + b) ++ [((a : Int), (b : Int))]) b⟩)]
def hcz (m : Nat) (l : LP) (a b : Nat) : Hint := ⟨chk 0 [0, 1, 8, 9, 10, 11] (fun i => (i ≤ l.length ∧ i ≤ 25) ∧ noH m l a b i) (cz10 m l a b), (xcz m l a b).map (·.2)⟩
def hct (m : Nat) (l : LP) (a b : Nat) : Hint := ⟨chk 0 [0, 1, 8, 9, 10, 11] (fun i => (i ≤ l.length ∧ i ≤ 25) ∧ noH m l a b i) (ct10 m l a b), (xct m l a b).map (·.2)⟩
theorem tm_rg {m : Nat} (m1 : 1 ≤ m) (hm : m ≤ 7) (x : Int) : inR .i64 (tmc m x) := by
 have := tmc_bd m1 x
 simp only [inR]; omega
theorem noH_next {m : Nat} {l : LP} {a b i : Nat} (h : noH m l a b i) (h2 : hiB m l a b i = false) : noH m l a b (i + 1) := fun j hj => by
 by_cases e : j = i
 · rw [e]; exact h2
 · exact h j (by omega)
theorem loop10cz (m : Nat) (m1 : 1 ≤ m) (hm : m ≤ 7) (l : LP) (hl : l.length < 1000000000000000) (a b : Nat) (R : Exit → St → Prop) : LoopOK X10 L10_4 (hcz m l a b) R := by
 refine loop_ok (Xw_ok _ _) (H := fun _ _ => none) [0, 1, 8, 9, 10, 11] (fun i => (i ≤ l.length ∧ i ≤ 25) ∧ noH m l a b i) (cz10 m l a b) (fun i => l.length - i) (xcz m l a b) 200 fun (i : Nat) hi => ?_
 refine of_eq (q := (fun (q : Int) => (fun (p : Bool) => (fun (o : Int) => (fun (n : Int) => (fun (k : Int) => (fun (j : Prop) => (fun (h : Int) => (fun (g : Prop) => (fun (r : Prop) => (fun (f : Int) => (fun (e : Int) => (fun (d : Prop) => (fun (c : Prop) => j ∧ j ∧ j ∧ j ∧ j ∧ (o < (↑(List.length l) : Int) → j ∧ j ∧ j ∧ (o < 25 → j ∧ j ∧ idxPre o (List.length l) ∧ idxPre q (2 : Nat) ∧ j ∧ j ∧ j ∧ inR .u64 h ∧ ¬h = q ∧ inR .i64 f ∧ j ∧ j ∧ idxPre o (List.length l) ∧ idxPre (1 : Int) (2 : Nat) ∧ j ∧ j ∧ j ∧ inR .u64 h ∧ ¬h = q ∧ inR .i64 e ∧ j ∧ j ∧ j ∧ j ∧ j ∧ j ∧ j ∧ j ∧ (minI f e = n → j ∧ j ∧ j ∧ j ∧ j ∧ j ∧ (maxI f e = k → j ∧ j ∧ j ∧ j ∧ j ∧ sumPre (0 : Nat) [(n, k)].length (nat_lit 16) ∧ j ∧ ((∃ (y : Unit), p = false ∧ r ∧ j) ∨ ∃ (y : Unit), p = true ∧ (h = h ∧ l = l ∧ j ∧ g) ∧ [(n, k)] = [(n, k)] ∧ j)) ∧ (¬maxI f e = k → c)) ∧ (¬minI f e = n → j ∧ c)) ∧ (¬o < 25 → d)) ∧ (¬o < (↑(List.length l) : Int) → j ∧ d)) (j ∧ inR .i64 (o + 1) ∧ j ∧ ∃ (y : Nat), (((y ≤ List.length l ∧ y ≤ 25) ∧ noH m l a b y) ∧ List.length l - y < List.length l - i) ∧ (h = h ∧ l = l ∧ j ∧ n = n ∧ k = k ∧ o + 1 = (y : Int) ∧ j) ∧ j)) ((∃ (y : Unit), p = false ∧ (h = h ∧ l = l ∧ j ∧ g) ∧ j) ∨ ∃ (y : Unit), p = true ∧ r ∧ False)) ((modU .u64 (List.getD l i (q, q)).snd).tmod h)) ((modU .u64 (List.getD l i (q, q)).fst).tmod h)) (h = h ∧ l = l ∧ False ∧ g)) (n = n ∧ k = k ∧ j)) ((m : Int))) (True)) ((b : Int))) ((a : Int))) ((i : Int))) (hiT m l a b)) ((0 : Int))) (by kernel_rfl) ?_
 simp only [zz]
 obtain ⟨⟨i1, i2⟩, i3⟩ := hi
 have um : inR .u64 (m : Int) := by simp only [inR]; omega
 have m0 : ¬ (m : Int) = 0 := by omega
 have r1 := tm_rg m1 hm (l.getD i (0, 0)).1
 have r2 := tm_rg m1 hm (l.getD i (0, 0)).2
 unfold tmc at r1 r2
 have hB : hiB m l a b i = (decide (minI ((modU .u64 (l.getD i (0, 0)).1).tmod m) ((modU .u64 (l.getD i (0, 0)).2).tmod m) = (a : Int)) && decide (maxI ((modU .u64 (l.getD i (0, 0)).1).tmod m) ((modU .u64 (l.getD i (0, 0)).2).tmod m) = (b : Int))) := rfl
 have nx : hiB m l a b i = false → i < l.length → i < 25 → inR .i64 ((i : Int) + 1) ∧ ∃ y : Nat, (((y ≤ l.length ∧ y ≤ 25) ∧ noH m l a b y) ∧ l.length - y < l.length - i) ∧ (i : Int) + 1 = (y : Int) := fun h h1 h2 => ⟨in1 (by omega), i + 1, ⟨⟨⟨by omega, by omega⟩, noH_next i3 h⟩, by omega⟩, by omega⟩
 have none1 : ¬ i < 25 ∨ ¬ i < l.length → hiT m l a b = false := fun h => hiT_no fun j h1 h2 => i3 j (by omega)
 refine ⟨fun h1 => ⟨fun h2 => ?_, fun h2 => none1 (.inl (by omega))⟩, fun h1 => none1 (.inr (by omega))⟩
 have h1 : i < l.length := by omega
 have h2 : i < 25 := by omega
 have ii := idx_nat h1
 refine ⟨ii, i02, um, m0, r1, ii, i12, um, m0, r2, fun h3 => ⟨fun h4 => ⟨by simp [sumPre], hiT_yes h1 h2 ?_⟩, fun h4 => nx ?_ h1 h2⟩, fun h3 => nx ?_ h1 h2⟩
 · rw [hB, decide_eq_true h3, decide_eq_true h4]; try rfl
 · rw [hB, decide_eq_false h4, Bool.and_false]
 · rw [hB, decide_eq_false h3, Bool.false_and]
theorem loop10ct (m : Nat) (m1 : 1 ≤ m) (hm : m ≤ 7) (l : LP) (hl : l.length < 1000000000000000) (a b : Nat) (hb : a * 7 + b < 1000) (R : Exit → St → Prop) : LoopOK X10 L10_4 (hct m l a b) R := by
 refine loop_ok (Xw_ok _ _) (H := fun _ _ => none) [0, 1, 8, 9, 10, 11] (fun i => (i ≤ l.length ∧ i ≤ 25) ∧ noH m l a b i) (ct10 m l a b) (fun i => l.length - i) (xct m l a b) 200 fun (i : Nat) hi => ?_
 refine of_eq (q := (fun (r : Int) => (fun (q : Bool) => (fun (p : Int) => (fun (o : Int) => (fun (n : Int) => (fun (k : Int) => (fun (j : Prop) => (fun (g : Int) => (fun (f : Int) => (fun (d : Prop) => (fun (c : LP) => (fun (h : Prop) => (fun (e : Prop) => j ∧ j ∧ j ∧ j ∧ j ∧ (p < (↑(List.length l) : Int) → j ∧ j ∧ j ∧ (p < 25 → j ∧ j ∧ idxPre p (List.length l) ∧ idxPre r (2 : Nat) ∧ j ∧ j ∧ j ∧ inR .u64 o ∧ ¬o = r ∧ inR .i64 f ∧ j ∧ j ∧ idxPre p (List.length l) ∧ idxPre (1 : Int) (2 : Nat) ∧ j ∧ j ∧ j ∧ inR .u64 o ∧ ¬o = r ∧ inR .i64 g ∧ j ∧ j ∧ j ∧ j ∧ j ∧ j ∧ j ∧ j ∧ (minI f g = n → j ∧ j ∧ j ∧ j ∧ j ∧ j ∧ (maxI f g = k → j ∧ j ∧ j ∧ j ∧ j ∧ sumPre (List.length c) [(n, k)].length (nat_lit 16) ∧ j ∧ ((∃ (y : Unit), q = false ∧ d ∧ c ++ [(n, k)] = c ∧ j) ∨ ∃ (y : Unit), q = true ∧ d ∧ c ++ [(n, k)] = c ++ [(n, k)] ∧ j)) ∧ (¬maxI f g = k → e)) ∧ (¬minI f g = n → j ∧ e)) ∧ (¬p < 25 → h)) ∧ (¬p < (↑(List.length l) : Int) → j ∧ h)) (j ∧ inR .i64 (p + 1) ∧ j ∧ ∃ (y : Nat), (((y ≤ List.length l ∧ y ≤ 25) ∧ noH m l a b y) ∧ List.length l - y < List.length l - i) ∧ (o = o ∧ l = l ∧ j ∧ n = n ∧ k = k ∧ p + 1 = (y : Int) ∧ j) ∧ c = c ∧ j)) ((∃ (y : Unit), q = false ∧ d ∧ c = c ∧ j) ∨ ∃ (y : Unit), q = true ∧ d ∧ c = c ++ [(n, k)] ∧ j)) (prK (PT m l) (7 : Nat) (a * 7 + b))) (o = o ∧ l = l ∧ j ∧ n = n ∧ k = k ∧ j)) ((modU .u64 (List.getD l i (r, r)).fst).tmod o)) ((modU .u64 (List.getD l i (r, r)).snd).tmod o)) (True)) ((b : Int))) ((a : Int))) ((m : Int))) ((i : Int))) (hiT m l a b)) ((0 : Int))) (by kernel_rfl) ?_
 simp only [zz]
 obtain ⟨⟨i1, i2⟩, i3⟩ := hi
 have um : inR .u64 (m : Int) := by simp only [inR]; omega
 have m0 : ¬ (m : Int) = 0 := by omega
 have r1 := tm_rg m1 hm (l.getD i (0, 0)).1
 have r2 := tm_rg m1 hm (l.getD i (0, 0)).2
 unfold tmc at r1 r2
 have hB : hiB m l a b i = (decide (minI ((modU .u64 (l.getD i (0, 0)).1).tmod m) ((modU .u64 (l.getD i (0, 0)).2).tmod m) = (a : Int)) && decide (maxI ((modU .u64 (l.getD i (0, 0)).1).tmod m) ((modU .u64 (l.getD i (0, 0)).2).tmod m) = (b : Int))) := rfl
 have nx : hiB m l a b i = false → i < l.length → i < 25 → inR .i64 ((i : Int) + 1) ∧ ∃ y : Nat, (((y ≤ l.length ∧ y ≤ 25) ∧ noH m l a b y) ∧ l.length - y < l.length - i) ∧ (i : Int) + 1 = (y : Int) := fun h h1 h2 => ⟨in1 (by omega), i + 1, ⟨⟨⟨by omega, by omega⟩, noH_next i3 h⟩, by omega⟩, by omega⟩
 have none1 : ¬ i < 25 ∨ ¬ i < l.length → hiT m l a b = false := fun h => hiT_no fun j h1 h2 => i3 j (by omega)
 have hlen := prK_len (PT m l) 7 (a * 7 + b)
 refine ⟨fun h1 => ⟨fun h2 => ?_, fun h2 => .inl (none1 (.inl (by omega)))⟩, fun h1 => .inl (none1 (.inr (by omega)))⟩
 have h1 : i < l.length := by omega
 have h2 : i < 25 := by omega
 have ii := idx_nat h1
 refine ⟨ii, i02, um, m0, r1, ii, i12, um, m0, r2, fun h3 => ⟨fun h4 => ⟨by unfold sumPre; simp; omega, ?_⟩, fun h4 => nx ?_ h1 h2⟩, fun h3 => nx ?_ h1 h2⟩
 · have hy : hiT m l a b = true := hiT_yes h1 h2 (by rw [hB, decide_eq_true h3, decide_eq_true h4] <;> rfl)
   first | exact .inr ⟨hy, rfl⟩ | exact .inr hy
 · rw [hB, decide_eq_false h4, Bool.and_false]
 · rw [hB, decide_eq_false h3, Bool.false_and]
def az10 (m : Nat) (l : LP) (a : Nat) : St := ⟨(.int .i64 m :: .sl P2 l :: dd 6 ++ nl :: .int .i64 a :: dd 73), []⟩
def at10 (m : Nat) (l : LP) (a : Nat) (r : LP) : St := ⟨(.int .i64 m :: .sl P2 l :: dd 6 ++ .own 0 0 :: .int .i64 a :: dd 73), [.sc 0 52 P2 r]⟩
def fb10 (m : Nat) (l : LP) (a : Nat) : List Fam := [⟨Nat, fun b => (a < b ∧ b ≤ m) ∧ prK (PT m l) 7 (a * 7 + b) = [], bz10 m l a, fun b => m - b, fun b _ => some (hcz m l a b)⟩, ⟨Nat, fun b => a < b ∧ b ≤ m, fun b => bt10 m l a (prK (PT m l) 7 (a * 7 + b)) b, fun b => m - b, fun b _ => some (hct m l a b)⟩]
def xb10 (m : Nat) (l : LP) (a : Nat) : List (List Nat × Ex) := [([0, 1, 8, 9], ⟨2, Unit, fun _ => prK (PT m l) 7 (a * 7 + m) = [], fun _ => az10 m l a⟩), ([0, 1, 8, 9], ⟨2, Unit, fun _ => True, fun _ => at10 m l a (prK (PT m l) 7 (a * 7 + m))⟩)]
def hb10 (m : Nat) (l : LP) (a : Nat) : Hint := ⟨chks 0 [0, 1, 8, 9, 10] (fb10 m l a), (xb10 m l a).map (·.2)⟩
theorem loop10b (m : Nat) (m1 : 1 ≤ m) (hm : m ≤ 7) (l : LP) (hl : l.length < 1000000000000000) (a : Nat) (ha : a < m) (R : Exit → St → Prop) : LoopOK X10 L10_2 (hb10 m l a) R := by
 have hP : ∀ b, a < b → b < m → PT m l a b = hiT m l a b := fun b h1 h2 => by show (decide (a < b) && decide (b < m) && hiT m l a b) = _; rw [decide_eq_true h1, decide_eq_true h2]; try rfl
 refine loop_fams (Xw_ok _ _) [0, 1, 8, 9, 10] (fb10 m l a) (xb10 m l a) 200 ⟨fun (b : Nat) hb => ?_, fun (b : Nat) hb => ?_, trivial⟩
 · have hL := fun R => loop10cz m m1 hm l hl a b R
   refine of_eq (q := (fun (j : Prop) => (fun (h : Nat) => (fun (g : Int) => (fun (f : Prop) => (fun (e : Int) => (fun (d : Int) => (fun (i : Prop) => (fun (c : Int) => (fun (k : Prop) => f ∧ f ∧ f ∧ (g < c → f ∧ LoopOK X10 L10_4 (hcz m l a b) (bodyR (Xw [] fun (t : Nat) => t.beq (15 : Nat) || (t.beq (48 : Nat) || t.beq (58 : Nat))).m0 (xb10 m l a) R) ∧ (∃ (y : Nat), ((y ≤ List.length l ∧ y ≤ 25) ∧ noH m l a b y) ∧ (k ∧ j ∧ f ∧ i ∧ g = g ∧ (0 : Int) = (y : Int) ∧ f) ∧ f) ∧ (∀ (y : Unit), hiT m l a b = false → f ∧ inR .i64 e ∧ f ∧ ((∃ (y : Nat), (((a < y ∧ y ≤ m) ∧ prK (PT m l) h (a * h + y) = []) ∧ m - y < m - b) ∧ (k ∧ j ∧ f ∧ i ∧ e = (y : Int) ∧ f) ∧ f) ∨ ∃ (y : Nat), ((a < y ∧ y ≤ m) ∧ m - y < m - b) ∧ (k ∧ j ∧ False ∧ i ∧ e = (y : Int) ∧ f) ∧ False)) ∧ (∀ (y : Unit), hiT m l a b = true → f ∧ inR .i64 e ∧ f ∧ ((∃ (y : Nat), (((a < y ∧ y ≤ m) ∧ prK (PT m l) h (a * h + y) = []) ∧ m - y < m - b) ∧ (k ∧ j ∧ False ∧ i ∧ e = (y : Int) ∧ f) ∧ f) ∨ ∃ (y : Nat), ((a < y ∧ y ≤ m) ∧ m - y < m - b) ∧ (k ∧ j ∧ f ∧ i ∧ e = (y : Int) ∧ f) ∧ [(d, g)] = prK (PT m l) h (a * h + y) ∧ f)) ∧ f) ∧ (¬g < c → (∃ (y : Unit), prK (PT m l) h (a * h + m) = [] ∧ (k ∧ j ∧ f ∧ i ∧ f) ∧ f) ∨ ∃ (y : Unit), f ∧ (k ∧ j ∧ False ∧ i ∧ f) ∧ False)) (c = c)) ((m : Int))) (d = d)) ((a : Int))) (g + 1)) (True)) ((b : Int))) ((7 : Nat))) (l = l)) (by kernel_rfl) ?_
   simp only [zz]
   obtain ⟨b1, b2⟩ := hb
   refine ⟨fun h1 => ?_, fun h1 => by rwa [show b = m by omega] at b2⟩
   have h1 : b < m := by omega
   have hst := prK_step (P := PT m l) (i := a) (j := b) (w := 7) (by omega)
   rw [hP b b1.1 h1] at hst
   refine ⟨hL _, ⟨0, ⟨⟨Nat.zero_le _, by omega⟩, fun j hj => absurd hj (Nat.not_lt_zero _)⟩, rfl⟩, fun _ h2 => ⟨in1 (by omega), b + 1, ⟨⟨by omega, ?_⟩, by omega⟩, by omega⟩, fun _ h2 => ⟨in1 (by omega), b + 1, ⟨by omega, by omega⟩, by omega, ?_⟩⟩
   · rw [hst, if_neg (by rw [h2]; decide)]; exact b2
   · rw [hst, if_pos h2, b2]; try rfl
 · have hL := fun h R => loop10ct m m1 hm l hl a b h R
   refine of_eq (q := (fun (i : Prop) => (fun (h : Nat) => (fun (k : LP) => (fun (g : Int) => (fun (j : Int) => (fun (f : Int) => (fun (e : Int) => (fun (d : LP) => (fun (c : Prop) => i ∧ i ∧ i ∧ (g < e → i ∧ LoopOK X10 L10_4 (hct m l a b) (bodyR (Xw [] fun (t : Nat) => t.beq (15 : Nat) || (t.beq (48 : Nat) || t.beq (58 : Nat))).m0 (xb10 m l a) R) ∧ (∃ (y : Nat), ((y ≤ List.length l ∧ y ≤ 25) ∧ noH m l a b y) ∧ (e = e ∧ l = l ∧ i ∧ f = f ∧ g = g ∧ (0 : Int) = (y : Int) ∧ i) ∧ d = d ∧ i) ∧ (∀ (y : Unit), hiT m l a b = false → i ∧ inR .i64 j ∧ i ∧ (c ∨ ∃ (y : Nat), ((a < y ∧ y ≤ m) ∧ m - y < m - b) ∧ (e = e ∧ l = l ∧ i ∧ f = f ∧ j = (y : Int) ∧ i) ∧ d = prK (PT m l) h (a * h + y) ∧ i)) ∧ (∀ (y : Unit), hiT m l a b = true → i ∧ inR .i64 j ∧ i ∧ (c ∨ ∃ (y : Nat), ((a < y ∧ y ≤ m) ∧ m - y < m - b) ∧ (e = e ∧ l = l ∧ i ∧ f = f ∧ j = (y : Int) ∧ i) ∧ d ++ [(f, g)] = prK (PT m l) h (a * h + y) ∧ i)) ∧ i) ∧ (¬g < e → (∃ (y : Unit), k = [] ∧ (e = e ∧ l = l ∧ False ∧ f = f ∧ i) ∧ i) ∨ ∃ (y : Unit), i ∧ (e = e ∧ l = l ∧ i ∧ f = f ∧ i) ∧ d = k ∧ i)) (∃ (y : Nat), (((a < y ∧ y ≤ m) ∧ prK (PT m l) h (a * h + y) = []) ∧ m - y < m - b) ∧ (e = e ∧ l = l ∧ False ∧ f = f ∧ j = (y : Int) ∧ i) ∧ i)) (prK (PT m l) h (a * h + b))) ((m : Int))) ((a : Int))) (g + 1)) ((b : Int))) (prK (PT m l) h (a * h + m))) ((7 : Nat))) (True)) (by kernel_rfl) ?_
   simp only [zz]
   have b1 : a < b ∧ b ≤ m := hb
   refine ⟨fun h1 => ?_, fun h1 => by rw [show b = m by omega]⟩
   have h1 : b < m := by omega
   have hst := prK_step (P := PT m l) (i := a) (j := b) (w := 7) (by omega)
   rw [hP b b1.1 h1] at hst
   refine ⟨hL (by omega) _, ⟨0, ⟨⟨Nat.zero_le _, by omega⟩, fun j hj => absurd hj (Nat.not_lt_zero _)⟩, rfl⟩, fun _ h2 => ⟨in1 (by omega), b + 1, ⟨by omega, by omega⟩, by omega, ?_⟩, fun _ h2 => ⟨in1 (by omega), b + 1, ⟨by omega, by omega⟩, by omega, ?_⟩⟩
   · rw [hst, if_neg (by rw [h2]; decide)]
   · rw [hst, if_pos h2]
def fa10 (m : Nat) (l : LP) : List Fam := [⟨Nat, fun a => a ≤ m ∧ prK (PT m l) 7 (a * 7) = [], az10 m l, fun a => m - a, fun a _ => some (hb10 m l a)⟩, ⟨Nat, fun a => a ≤ m, fun a => at10 m l a (prK (PT m l) 7 (a * 7)), fun a => m - a, fun a _ => some (hb10 m l a)⟩]
def xa10 (m : Nat) (l : LP) : List (List Nat × Ex) := [([0, 8], ⟨0, Unit, fun _ => tmL m l = [], fun _ => ⟨(.int .i64 m :: dd 7 ++ nl :: dd 74), []⟩⟩), ([0, 8], ⟨0, Unit, fun _ => True, fun _ => ⟨(.int .i64 m :: dd 7 ++ .own 0 0 :: dd 74), [.sc 0 52 P2 (tmL m l)]⟩⟩)]
def ha10 (m : Nat) (l : LP) : Hint := ⟨chks 0 [0, 1, 8, 9] (fa10 m l), (xa10 m l).map (·.2)⟩
theorem loop10a (m : Nat) (m1 : 1 ≤ m) (hm : m ≤ 7) (l : LP) (hl : l.length < 1000000000000000) (R : Exit → St → Prop) : LoopOK X10 L10_0 (ha10 m l) R := by
 refine loop_fams (Xw_ok _ _) [0, 1, 8, 9] (fa10 m l) (xa10 m l) 200 ⟨fun (a : Nat) ha => ?_, fun (a : Nat) ha => ?_, trivial⟩
 · have hL := fun h1 => loop10b m m1 hm l hl a h1 (bodyR 0 (xa10 m l) R)
   have hrow := row46 m hm (hiT m l) a
   have hbeg := beg46 m hm (hiT m l) a
   refine of_eq (q := (fun (f : Int) => (fun (e : Prop) => (fun (d : Nat) => (fun (g : LP) => (fun (c : Int) => (fun (b : Int) => (fun (h : Prop) => e ∧ e ∧ e ∧ (f < b → e ∧ inR .i64 c ∧ e ∧ LoopOK X10 L10_2 (hb10 m l a) (bodyR (0 : Nat) (xa10 m l) R) ∧ ((∃ (y : Nat), ((a < y ∧ y ≤ m) ∧ prK (PT m l) d (a * d + y) = []) ∧ (h ∧ l = l ∧ e ∧ f = f ∧ c = (y : Int) ∧ e) ∧ e) ∨ ∃ (y : Nat), (a < y ∧ y ≤ m) ∧ (h ∧ l = l ∧ False ∧ f = f ∧ c = (y : Int) ∧ e) ∧ False) ∧ (∀ (y : Unit), g = [] → e ∧ inR .i64 c ∧ e ∧ ((∃ (y : Nat), ((y ≤ m ∧ prK (PT m l) d (y * d) = []) ∧ m - y < m - a) ∧ (h ∧ l = l ∧ e ∧ c = (y : Int) ∧ e) ∧ e) ∨ ∃ (y : Nat), (y ≤ m ∧ m - y < m - a) ∧ (h ∧ l = l ∧ False ∧ c = (y : Int) ∧ e) ∧ False)) ∧ (∀ (y : Unit), e → e ∧ inR .i64 c ∧ e ∧ ((∃ (y : Nat), ((y ≤ m ∧ prK (PT m l) d (y * d) = []) ∧ m - y < m - a) ∧ (h ∧ l = l ∧ False ∧ c = (y : Int) ∧ e) ∧ e) ∨ ∃ (y : Nat), (y ≤ m ∧ m - y < m - a) ∧ (h ∧ l = l ∧ e ∧ c = (y : Int) ∧ e) ∧ g = prK (PT m l) d (y * d) ∧ e)) ∧ e) ∧ (¬f < b → (∃ (y : Unit), tmL m l = [] ∧ (h ∧ e ∧ e) ∧ e) ∨ ∃ (y : Unit), e ∧ (h ∧ False ∧ e) ∧ False)) (b = b)) ((m : Int))) (f + 1)) (prK (PT m l) d (a * d + m))) ((7 : Nat))) (True)) ((a : Int))) (by kernel_rfl) ?_
   simp only [zz]
   obtain ⟨a1, a2⟩ := ha
   exact ⟨fun h1 => ⟨in1 (by omega), hL (by omega), ⟨a + 1, ⟨⟨by omega, by omega⟩, by rw [← hbeg (by omega)]; exact a2⟩, by omega⟩, fun _ h2 => ⟨in1 (by omega), a + 1, ⟨⟨by omega, by rw [← hrow]; exact h2⟩, by omega⟩, by omega⟩, fun _ _ => ⟨in1 (by omega), a + 1, ⟨by omega, by omega⟩, by omega, hrow⟩⟩, fun h1 => (show a = m by omega) ▸ (all46 m hm (hiT m l)).symm.trans ((show m = a by omega) ▸ a2)⟩
 · have hL := fun h1 => loop10b m m1 hm l hl a h1 (bodyR 0 (xa10 m l) R)
   have hrow := row46 m hm (hiT m l) a
   have hbeg := beg46 m hm (hiT m l) a
   refine of_eq (q := (fun (f : Int) => (fun (e : Prop) => (fun (d : Nat) => (fun (g : LP) => (fun (c : Int) => (fun (b : Int) => (fun (h : Prop) => e ∧ e ∧ e ∧ (f < b → e ∧ inR .i64 c ∧ e ∧ LoopOK X10 L10_2 (hb10 m l a) (bodyR (0 : Nat) (xa10 m l) R) ∧ ((∃ (y : Nat), ((a < y ∧ y ≤ m) ∧ prK (PT m l) d (a * d + y) = []) ∧ (h ∧ l = l ∧ False ∧ f = f ∧ c = (y : Int) ∧ e) ∧ e) ∨ ∃ (y : Nat), (a < y ∧ y ≤ m) ∧ (h ∧ l = l ∧ e ∧ f = f ∧ c = (y : Int) ∧ e) ∧ prK (PT m l) d (a * d) = prK (PT m l) d (a * d + y) ∧ e) ∧ (∀ (y : Unit), g = [] → e ∧ inR .i64 c ∧ e ∧ ((∃ (y : Nat), ((y ≤ m ∧ prK (PT m l) d (y * d) = []) ∧ m - y < m - a) ∧ (h ∧ l = l ∧ e ∧ c = (y : Int) ∧ e) ∧ e) ∨ ∃ (y : Nat), (y ≤ m ∧ m - y < m - a) ∧ (h ∧ l = l ∧ False ∧ c = (y : Int) ∧ e) ∧ False)) ∧ (∀ (y : Unit), e → e ∧ inR .i64 c ∧ e ∧ ((∃ (y : Nat), ((y ≤ m ∧ prK (PT m l) d (y * d) = []) ∧ m - y < m - a) ∧ (h ∧ l = l ∧ False ∧ c = (y : Int) ∧ e) ∧ e) ∨ ∃ (y : Nat), (y ≤ m ∧ m - y < m - a) ∧ (h ∧ l = l ∧ e ∧ c = (y : Int) ∧ e) ∧ g = prK (PT m l) d (y * d) ∧ e)) ∧ e) ∧ (¬f < b → (∃ (y : Unit), tmL m l = [] ∧ (h ∧ False ∧ e) ∧ e) ∨ ∃ (y : Unit), e ∧ (h ∧ e ∧ e) ∧ prK (PT m l) d (a * d) = tmL m l ∧ e)) (b = b)) ((m : Int))) (f + 1)) (prK (PT m l) d (a * d + m))) ((7 : Nat))) (True)) ((a : Int))) (by kernel_rfl) ?_
   simp only [zz]
   have a1 : a ≤ m := ha
   exact ⟨fun h1 => ⟨in1 (by omega), hL (by omega), ⟨a + 1, ⟨by omega, by omega⟩, by omega, hbeg (by omega)⟩, fun _ h2 => ⟨in1 (by omega), a + 1, ⟨⟨by omega, by rw [← hrow]; exact h2⟩, by omega⟩, by omega⟩, fun _ _ => ⟨in1 (by omega), a + 1, ⟨by omega, by omega⟩, by omega, hrow⟩⟩, fun h1 => by unfold tmL; rw [← all46 m hm (hiT m l), show a = m by omega]⟩
theorem call10 (n : Int) (l : LP) (most : Nat) (h1 : 1 ≤ most) (h7 : most ≤ 7) (hl : l.length < 1000000000000000) : GCall Try.prog gl 10 true [.int .i64 n, .sl P2 l, .int .i64 most] [] [.int .i64 (tmM n most), .sl P2 (tmL (tmM n most) l)] [] := by
 refine gcall_of (X := X10) ((Xw_ok _ _)) (f := 10) (fn := Try.f10) (c := bodyOf Try.f10) (by kernel_rfl) (by kernel_rfl) (view := true) (rvs := [.tmp 6, .tmp 7]) (by kernel_rfl) (H := (fun _ => some (ha10 (tmM n most) l))) 150 (by kernel_rfl) ?_
 have hb := tmc_bd h1 n
 have hL := fun R => loop10a (tmM n most) (by unfold tmM; omega) (by unfold tmM; omega) l hl R
 refine of_eq (q := (fun (c : Prop) => (fun (b : Int) => (fun (a : Nat) => (fun (e : LP) => (fun (d : Int) => c ∧ c ∧ c ∧ c ∧ c ∧ inR .u64 (most : Int) ∧ ¬(most : Int) = 0 ∧ inR .i64 b ∧ inR .i64 ((1 : Int) + b) ∧ c ∧ c ∧ c ∧ LoopOK X10 L10_0 (ha10 a l) (RetR X10 true true [ResultVar.tmp (6 : Tmp), ResultVar.tmp (7 : Tmp)] [AV.int .i64 d, AV.sl P2 e] []) ∧ ((∃ (y : Nat), (y ≤ a ∧ prK (PT a l) (7 : Nat) (y * 7) = []) ∧ ((1 : Int) + b = d ∧ l = l ∧ c ∧ (0 : Int) = (y : Int) ∧ c) ∧ c) ∨ ∃ (y : Nat), y ≤ a ∧ ((1 : Int) + b = d ∧ l = l ∧ False ∧ (0 : Int) = (y : Int) ∧ c) ∧ False) ∧ (∀ (y : Unit), e = [] → c ∧ c ∧ c ∧ c ∧ c ∧ (d = d ∧ ([] : List (Int × Int)) = e ∧ c) ∧ c) ∧ (∀ (y : Unit), c → c ∧ c ∧ c ∧ c ∧ c ∧ (d = d ∧ e = e ∧ c) ∧ c) ∧ c) ((a : Int))) (tmL a l)) (tmM n most)) ((modU .u64 n).tmod (most : Int))) (True)) (by kernel_rfl) ?_
 simp only [zz]
 have e : 1 + (modU .u64 n).tmod most = ((tmM n most : Nat) : Int) := by
   show 1 + tmc most n = _
   unfold tmM; omega
 have r := tm_rg h1 h7 n
 refine ⟨by simp only [inR]; omega, by omega, r, by rw [e]; unfold tmM; simp only [inR]; omega, hL _, ⟨0, ⟨Nat.zero_le _, rfl⟩, e, rfl⟩, fun _ h => h.symm, fun _ _ => trivial⟩
end Go.Am.Or

/- Orders: plain facts: graphs as lists, and what an order is. -/
namespace Go.Am.Or
open Go Go.Am Go.Proofs
def e10 : Entry Try.prog gl := entry3 10 ⟨Try.f10, by kernel_rfl, by kernel_rfl, by kernel_rfl⟩ I64 SP I64 (fun _ l (most : Int) => (1 ≤ most ∧ most ≤ 7) ∧ (l : LP).length < 1000000000000000) true (fun (n : Int) (l : LP) (most : Int) => [.int .i64 (tmM n most.toNat), .sl P2 (tmL (tmM n most.toNat) l)]) (fun _ _ _ => []) (fun (n : Int) (l : LP) (most : Int) h => by
 have := call10 n l most.toNat (by omega) (by omega) h.2
 rwa [Int.toNat_of_nonneg (by omega)] at this)
theorem tmM_bd {n : Int} {most : Nat} (h1 : 1 ≤ most) : 1 ≤ tmM n most ∧ tmM n most ≤ most := by
 have := tmc_bd h1 n
 unfold tmM; omega
/-- The pairs of a relation are rising. -/
theorem prK_sort {P : RF} : ∀ {q i j : Nat}, i < j → j < (prK P 7 q).length → lt2 ((prK P 7 q).getD i (0, 0)) ((prK P 7 q).getD j (0, 0))
 | 0, i, j, _, h => by simp [prK] at h
 | q + 1, i, j, hij, h => by
   rw [prK] at h ⊢
   by_cases hp : P (q / 7) (q % 7) = true
   · rw [if_pos hp] at h ⊢
     rw [List.length_append, List.length_singleton] at h
     by_cases hj : j < (prK P 7 q).length
     · rw [getD_app hj, getD_app (by omega)]; exact prK_sort hij hj
     · have e : j = (prK P 7 q).length := by omega
       rw [e, getD_last, getD_app (by omega)]
       obtain ⟨a, b, h1, h2, h3, _⟩ := (prK_mem (by decide)).mp (mem_getD (d := (0, 0)) (show i < (prK P 7 q).length by omega))
       rw [h1]
       unfold lt2
       simp only
       omega
   · rw [if_neg hp] at h ⊢; exact prK_sort hij h
theorem L46_ok {n : Nat} (n1 : 1 ≤ n) (hn : n ≤ 7) (f : RF) : grOk n (L46 n f) := by
 refine ⟨by omega, fun k hk => ?_, ?_⟩
 · obtain ⟨a, b, h1, h2, h3, h4, _⟩ := L46_mem.mp (mem_getD (d := (0, 0)) hk)
   refine ⟨?_, ?_, ?_, fun h0 => prK_sort (by omega) hk⟩ <;> (rw [h1]; simp only; omega)
 · have := prK_len (P46 n f) 7 49
   unfold L46; omega
theorem eg_L46 {n : Nat} {f : RF} {x y : Nat} (hx : x < 7) (hy : y < 7) : eg (L46 n f) x y = true ↔ (x < y ∧ y < n ∧ f x y = true) ∨ (y < x ∧ x < n ∧ f y x = true) := by
 unfold eg
 rw [List.any_eq_true]
 constructor
 · rintro ⟨e, h1, h2⟩
   obtain ⟨a, b, g1, g2, g3, g4, g5⟩ := L46_mem.mp h1
   rw [g1] at h2
   simp only [Bool.or_eq_true, Bool.and_eq_true, decide_eq_true_eq] at h2
   rcases h2 with h2 | h2
   · have : a = x := by omega
     have : b = y := by omega
     subst a b
     exact .inl ⟨g2, g3, g5⟩
   · have : a = y := by omega
     have : b = x := by omega
     subst a b
     exact .inr ⟨g2, g3, g5⟩
 · rintro (⟨h1, h2, h3⟩ | ⟨h1, h2, h3⟩)
   · exact ⟨((x : Int), (y : Int)), L46_mem.mpr ⟨x, y, rfl, h1, h2, hy, h3⟩, by simp⟩
   · exact ⟨((y : Int), (x : Int)), L46_mem.mpr ⟨y, x, rfl, h1, h2, hx, h3⟩, by simp⟩
/-- A graph. -/
structure gr (n : Nat) (f : RF) : Prop where
 n1 : 1 ≤ n
 hn : n ≤ 7
 lt : ∀ x y, f x y = true → x < n ∧ y < n
 sy : ∀ x y, f x y = f y x
 ir : ∀ x, f x x = false
theorem eg_sy (l : LP) (x y : Nat) : eg l x y = eg l y x := by
 unfold eg
 congr 1
 funext e
 exact Bool.or_comm _ _
theorem grOk.at {n : Int} {l : LP} (h : grOk n l) {y : PA} (hy : y ∈ l) : (0 ≤ y.1 ∧ y.1 < y.2) ∧ y.2 < n := by
 obtain ⟨i, hi, e⟩ := List.getElem_of_mem hy
 obtain ⟨h1, h2, h3, _⟩ := h.he i hi
 rw [getD_lt hi, e] at h1 h2 h3
 exact ⟨⟨h1, h2⟩, h3⟩
theorem gr_eg {n : Nat} {l : LP} (h : grOk n l) : gr n (eg l) := by
 obtain ⟨n1, n2⟩ := h.hn
 refine ⟨by omega, by omega, fun x y hxy => ?_, eg_sy l, fun x => ?_⟩
 · unfold eg at hxy
   obtain ⟨e, h1, h2⟩ := List.any_eq_true.mp hxy
   have := h.at h1
   simp only [Bool.or_eq_true, Bool.and_eq_true, decide_eq_true_eq] at h2
   omega
 · cases hx : eg l x x with
   | false => rfl
   | true =>
     unfold eg at hx
     obtain ⟨e, h1, h2⟩ := List.any_eq_true.mp hx
     have := h.at h1
     simp only [Bool.or_eq_true, Bool.and_eq_true, decide_eq_true_eq] at h2
     omega
/-- The relation that is made goes along the edges, one way or both. -/
structure ori (n : Nat) (f o g : RF) : Prop where
 gg : gr n g
 of : ∀ x y, x < 7 → y < 7 → (f x y = true ↔ o x y = true ∨ o y x = true ∨ g x y = true)
 oi : ∀ x y, o x y = true → f x y = true
/-- An order of a graph. -/
structure isOr (n : Nat) (f r : RF) : Prop where
 tr : trB r = true
 of : ∀ x y, x < 7 → y < 7 → (f x y = true ↔ r x y = true ∨ r y x = true)
 oi : ∀ x y, r x y = true → f x y = true
end Go.Am.Or

/- Orders: the reference: joined, colours. -/
namespace Go.Am.Or
open Go Go.Am Go.Proofs
def hasB (l : LP) (x : PA) : Bool := decide (x ∈ l)
noncomputable def L36_0 : Code := lp (bodyOf Try.f36) 0
def st36 (l : LP) (x : PA) (i : Nat) : St := ⟨(.sl P2 l :: dd 2 ++ .ptr 0 0 [] :: .dead :: .int .i64 i :: dd 12), [.bx (pa x.1 x.2)]⟩
def ex36 (l : LP) (x : PA) : List (List Nat × Ex) := [([], ⟨0, Unit, fun _ => ¬ x ∈ l, fun _ => ⟨(dd 18), []⟩⟩)]
def h36 (l : LP) (x : PA) : Hint := ⟨chk 0 [0, 3, 5] (fun i => i ≤ l.length ∧ ¬ x ∈ l.take i) (st36 l x), (ex36 l x).map (·.2)⟩
theorem loop36 (l : LP) (x : PA) (hl : l.length < 1000000000000000) : LoopOK (X []) L36_0 (h36 l x) (RetR (X []) true false [.tmp 4] [.bool (hasB l x)] []) := by
 refine loop_ok (X_ok _) (H := fun _ _ => none) [0, 3, 5] (fun i => i ≤ l.length ∧ ¬ x ∈ l.take i) (st36 l x) (fun i => l.length - i) (ex36 l x) 200 fun (i : Nat) hi => ?_
 refine of_eq (q := (fun (d : Int × Int) => (fun (c : Int) => (fun (b : Prop) => (fun (a : Prop) => b ∧ b ∧ b ∧ b ∧ (c < (↑(List.length l) : Int) → b ∧ b ∧ idxPre c (List.length l) ∧ b ∧ b ∧ b ∧ (a → b ∧ b ∧ (true = hasB l x ∧ b) ∧ b) ∧ (¬a → b ∧ inR .i64 (c + 1) ∧ b ∧ ∃ (y : Nat), ((y ≤ List.length l ∧ ¬x ∈ List.take y l) ∧ List.length l - y < List.length l - i) ∧ (l = l ∧ b ∧ c + 1 = (y : Int) ∧ b) ∧ [x.fst, x.snd] = [x.fst, x.snd] ∧ b)) ∧ (¬c < (↑(List.length l) : Int) → ∃ (y : Unit), ¬x ∈ l ∧ b ∧ b)) ((d.fst, d.snd) = (x.fst, x.snd))) (True)) ((i : Int))) (List.getD l i ((0 : Int), (0 : Int)))) (by kernel_rfl) ?_
 simp only [zz]
 obtain ⟨i1, i2⟩ := hi
 refine ⟨fun h1 => ?_, fun h1 => by rwa [List.take_of_length_le (by omega)] at i2⟩
 have h1 : i < l.length := by omega
 have hm := mem_getD (d := (0, 0)) h1
 have ht := take_getD (d := (0, 0)) h1
 refine ⟨idx_nat h1, fun h2 => ?_, fun h2 => ⟨by simp only [inR]; omega, i + 1, ⟨⟨by omega, ?_⟩, by omega⟩, by omega⟩⟩
 · have h2 : l.getD i (0, 0) = x := h2
   exact (decide_eq_true (h2 ▸ hm)).symm
 · have h2 : ¬ l.getD i (0, 0) = x := h2
   rw [ht, List.mem_append, List.mem_singleton]
   exact fun h => h.elim i2 fun h => h2 h.symm
theorem call36 (l : LP) (x : PA) (hl : (l : LP).length < 1000000000000000) : GCall Try.prog gl 36 true [.sl P2 l, pa x.1 x.2] [] [.bool (hasB l x)] [] := by
 refine gcall_of (X := (X [])) ((X_ok _)) (f := 36) (fn := Try.f36) (c := bodyOf Try.f36) (by kernel_rfl) (by kernel_rfl) (view := false) (rvs := [.tmp 4]) (by kernel_rfl) (H := (fun _ => some (h36 l x))) 150 (by kernel_rfl) ?_
 have hL := loop36 l x hl
 refine of_eq (q := (fun (a : Prop) => a ∧ a ∧ a ∧ LoopOK (X []) L36_0 (h36 l x) (RetR (X []) true false [ResultVar.tmp (4 : Tmp)] [AV.bool (hasB l x)] []) ∧ (∃ (y : Nat), (y ≤ List.length l ∧ ¬x ∈ List.take y l) ∧ (l = l ∧ a ∧ (0 : Int) = (y : Int) ∧ a) ∧ [x.fst, x.snd] = [x.fst, x.snd] ∧ a) ∧ (∀ (y : Unit), ¬x ∈ l → a ∧ a ∧ (false = hasB l x ∧ a) ∧ a) ∧ a) (True)) (by kernel_rfl) ?_
 simp only [zz]
 exact ⟨hL, ⟨0, ⟨Nat.zero_le _, by simp⟩, rfl⟩, fun _ h => (decide_eq_false h).symm⟩
def e36 : Entry Try.prog gl := entry2 36 ⟨Try.f36, by kernel_rfl, by kernel_rfl, by kernel_rfl⟩ SP P2 (fun l _ => (l : LP).length < 1000000000000000) true (fun l x => [.bool (hasB l x)]) (fun _ _ => []) (fun l x h => call36 l x h)
def jnB (l : LP) (a b : Int) : Bool := hasB l (minI a b, maxI a b)
theorem call58 (l : LP) (a b : Int) (hl : (l : LP).length < 1000000000000000) : GCall Try.prog gl 58 true [.sl P2 l, .int .i64 a, .int .i64 b] [] [.bool (jnB l a b)] [] := by
 refine gcall_of (X := (X [e36])) ((X_ok _)) (f := 58) (fn := Try.f58) (c := bodyOf Try.f58) (by kernel_rfl) (by kernel_rfl) (view := false) (rvs := [.tmp 6]) (by kernel_rfl) (H := fun _ => none) 150 (by kernel_rfl) ?_
 refine of_eq (q := (fun (c : Prop) => c ∧ c ∧ c ∧ c ∧ c ∧ c ∧ c ∧ c ∧ c ∧ (List.length l + 1 ≤ 1000000000000000 ∧ c) ∧ c ∧ c ∧ (hasB l (minI a b, maxI a b) = jnB l a b ∧ c) ∧ c) (True)) (by kernel_rfl) ?_
 simp only [zz]
 exact ⟨hl, rfl⟩
def e58 : Entry Try.prog gl := entry3 58 ⟨Try.f58, by kernel_rfl, by kernel_rfl, by kernel_rfl⟩ SP I64 I64 (fun l _ _ => (l : LP).length < 1000000000000000) true (fun l (a b : Int) => [.bool (jnB l a b)]) (fun _ _ _ => []) (fun l (a b : Int) h => call58 l a b h)
def kB (e : LP) (l : List Int) (c : Int) : Nat → Bool
 | 0 => true
 | u + 1 => kB e l c u && (!decide (l.getD u 0 = c) || !jnB e u l.length)
def colB (e : LP) (k : Nat) : Nat → List Int → Bool
 | 0, _ => true
 | d + 1, l => (List.range k).any fun c => kB e l c l.length && colB e k d (l ++ [(c : Int)])
structure ok75 (n : Nat) (e : LP) (k d : Nat) (l : List Int) : Prop where
 hn : n ≤ 7
 hk : k ≤ 8
 d : l.length + d = n
 e : e.length < 1000000000000000
structure G75 where
 n : Int
 e : LP
 k : Int
 l : List Int
structure ok75G (x : G75) : Prop where
 n : 0 ≤ x.n
 k : 0 ≤ x.k
 o : ok75 x.n.toNat x.e x.k.toNat x.n.toNat []
 l : x.l = []
def clB (n : Nat) (e : LP) (k : Nat) : Bool := decide (1 ≤ k) && colB e k n []
def clN (n : Nat) (e : LP) : Nat := ((List.range (n + 1)).find? (clB n e)).getD 0
structure ia33 (n : Nat) (e : LP) (k : Nat) : Prop where
 h1 : 1 ≤ k
 hk : k ≤ n
 h : ∀ j, 1 ≤ j → j < k → colB e j n [] = false
end Go.Am.Or

/- Orders: Mirsky's theorem. -/
namespace Go.Am.Or
open Go Go.Am Go.Proofs
theorem adL_prK {r : RF} {x y : Nat} (hx : x < 7) (hy : y < 7) : adL zf (prK r 7 49) x y = r x y := by
 have hp : ∀ z, z ∈ prK r 7 49 → 0 ≤ z.1 ∧ 0 ≤ z.2 := fun z hz => by
   obtain ⟨a, b, h1, _⟩ := (prK_mem (by decide)).mp hz
   rw [h1]; simp only; omega
 rw [Bool.eq_iff_iff, adL_iff hp, prK_mem (by decide)]
 constructor
 · rintro (h | ⟨a, b, h1, _, _, h2⟩)
   · cases h
   · have : a = x := by have := congrArg Prod.fst h1; simp only at this; omega
     have : b = y := by have := congrArg Prod.snd h1; simp only at this; omega
     subst a b; exact h2
 · intro h
   exact .inr ⟨x, y, rfl, hy, by omega, h⟩
theorem jn_eg {n : Nat} {e : LP} (he : grOk n e) {u v : Nat} (h : u < v) : jnB e u v = true ↔ eg e u v = true := by
 unfold jnB hasB minI maxI
 rw [if_neg (by omega), if_pos (by omega), decide_eq_true_eq]
 unfold eg
 rw [List.any_eq_true]
 constructor
 · intro hm
   exact ⟨_, hm, by simp⟩
 · rintro ⟨x, hx, h1⟩
   have := he.at hx
   simp only [Bool.or_eq_true, Bool.and_eq_true, decide_eq_true_eq] at h1
   have e1 : x = ((u : Int), (v : Int)) := Prod.ext (by simp only; omega) (by simp only; omega)
   rw [← e1]; exact hx
end Go.Am.Or

/- Orders: the law of Mirsky. -/
namespace Go.Am.Or
open Go Go.Am Go.Proofs
def mxT (l : List Int) : Nat → Int
 | 0 => 0
 | i + 1 => maxI (mxT l i) (l.getD i 0)
structure p6 (m : Nat) (o : LP) (y : List Int) : Prop where
 hm : m ≤ 7
 hy : y.length = m
 ho : o.length ≤ 1000
 r : ∀ i, i < o.length → ((0 ≤ (o.getD i (0, 0)).1 ∧ (o.getD i (0, 0)).1 < m) ∧ (0 ≤ (o.getD i (0, 0)).2 ∧ (o.getD i (0, 0)).2 < m)) ∧ y.getD (o.getD i (0, 0)).1.toNat 0 < y.getD (o.getD i (0, 0)).2.toNat 0
structure F6 (m : Nat) (e : LP) : Prop where
 m1 : 1 ≤ m
 m7 : m ≤ 7
 ge : grOk m e
 le : e.length < 1000000000000000
 tk : (orR m (eg e)).2 = true → orOk m (orL m e)
 pp : (orR m (eg e)).2 = true → p6 m (orL m e) (lyS (adL zf (orL m e)) m m)
 tp : (orR m (eg e)).2 = true → mxT (lyS (adL zf (orL m e)) m m) m = ((chR (adL zf (orL m e)) m).length : Int) - 1
 cc : (orR m (eg e)).2 = true → (clN m e : Int) = (chR (adL zf (orL m e)) m).length
 lc : (chR (adL zf (orL m e)) m).length ≤ 9
end Go.Am.Or

/- Orders: two lists of all nodes. -/
namespace Go.Am.Or
open Go Go.Am Go.Proofs
def atV (b : List Int) (v : Nat) : Nat := if v < b.length then (tmc (v + 1) (b.getD v 0)).toNat else 0
def ins (r : List Int) (p v : Nat) : List Int := r.take p ++ [(v : Int)] ++ r.drop p
def rwK (b : List Int) : Nat → List Int
 | 0 => []
 | v + 1 => ins (rwK b v) (atV b v) v
/-- Two lists of all nodes. -/
def lnS (n : Int) (b : List Int × List Int) : List Int × List Int := (rwK b.1 (tmM n 7), rwK b.2 (tmM n 7))
theorem pl_of_nodup {n : Nat} {l : List Int} (h1 : l.Nodup) (h2 : ∀ x, x ∈ l → 0 ≤ x ∧ x < n) (h3 : l.length = n) : plB n l = true := by
 refine decide_eq_true ⟨by omega, fun j hj => ⟨h2 _ (mem_getD hj), fun hm => ?_⟩⟩
 obtain ⟨i, hi, e⟩ := List.mem_take_iff_getElem.mp hm
 rw [getD_lt hj] at e
 exact List.pairwise_iff_getElem.mp h1 i j (by omega) hj (by omega) e
theorem pl_nodup {n : Nat} {l : List Int} (h : plB n l = true) : l.Nodup ∧ l.length = n ∧ ∀ x, x ∈ l → 0 ≤ x ∧ x < n := by
 obtain ⟨h1, h2⟩ := of_decide_eq_true h
 refine ⟨?_, by omega, fun x hx => ?_⟩
 · rw [List.Nodup, List.pairwise_iff_getElem]
   intro i j hi hj hij e
   refine (h2 j hj).2 ?_
   rw [getD_lt hj, ← e]
   exact List.mem_take_iff_getElem.mpr ⟨i, by omega, rfl⟩
 · obtain ⟨i, hi, e⟩ := List.getElem_of_mem hx
   have := (h2 i hi).1
   rw [getD_lt hi, e] at this
   exact this
/-- What two lines have in common. -/
structure cmF (n : Nat) (r : RF) : Prop where
 lt : ∀ x y, r x y = true → x < n ∧ y < n
 tr : trB r = true
theorem cm_given {n : Nat} (n1 : 1 ≤ n) (hn : n ≤ 7) {r : RF} (h : cmF n r) : orOk n (prK r 7 49) := by
 have ht : trB (adL zf (prK r 7 49)) = true := (trB_ext fun x y hx hy => adL_prK hx hy).trans h.tr
 refine ⟨by omega, fun k hk => ?_, ?_, ht⟩
 · obtain ⟨a, b, h1, h3, h4, h5⟩ := (prK_mem (by decide)).mp (mem_getD (d := (0, 0)) hk)
   have h6 := h.lt a b h5
   have hne : a ≠ b := fun e => by rw [e, trB_irr h.tr h3] at h5; cases h5
   refine ⟨?_, ?_, ?_, fun h0 => prK_sort (by omega) hk⟩ <;> (rw [h1]; simp only; omega)
 · have := prK_len r 7 49
   omega
def b2 (P : RF) (x y : Nat) : Nat := if P x y = true then 1 else 0
def cK (P : RF) : Nat → Nat
 | 0 => 0
 | q + 1 => cK P q + b2 P (q / 7) (q % 7)
theorem cK_len (P : RF) : ∀ q, (prK P 7 q).length = cK P q
 | 0 => rfl
 | q + 1 => by
   rw [prK, cK, ← cK_len P q]
   unfold b2
   split
   · rw [List.length_append]; try rfl
   · rfl
theorem cK_add {P Q R : RF} (h : ∀ x y, x < 7 → y < 7 → b2 P x y = b2 Q x y + b2 R x y) : ∀ q, q ≤ 49 → cK P q = cK Q q + cK R q
 | 0, _ => rfl
 | q + 1, hq => by
   rw [cK, cK, cK, cK_add h q (by omega), h (q / 7) (q % 7) (by omega) (Nat.mod_lt _ (by decide))]
   omega
theorem cK_sw (P : RF) : cK P 49 = cK (sw P) 49 := by
 have e : ∀ x y, b2 (sw P) x y = b2 P y x := fun _ _ => rfl
 simp only [cK, e, Nat.reduceDiv, Nat.reduceMod]
 omega
theorem cK_all (n : Nat) (hn : n ≤ 7) : cK (fun x y => decide (x < y) && decide (y < n)) 49 = n * (n - 1) / 2 := by
 rcases show n = 0 ∨ n = 1 ∨ n = 2 ∨ n = 3 ∨ n = 4 ∨ n = 5 ∨ n = 6 ∨ n = 7 by omega with rfl | rfl | rfl | rfl | rfl | rfl | rfl | rfl <;> decide +kernel
theorem pairs {n : Nat} (hn : n ≤ 7) {r : RF} (h : cmF n r) : (L46 n (otR n (both r))).length + (prK r 7 49).length = n * (n - 1) / 2 := by
 have hlt := h.lt
 have ha : ∀ x y, x < 7 → y < 7 → r x y = true → r y x = true → False := fun x y hx hy h1 h2 => by
   have := (of_decide_eq_true h.tr x hx y hy h1).1
   rw [h2] at this; cases this
 have hir : ∀ x, x < 7 → r x x = false := fun x hx => trB_irr h.tr hx
 rw [L46, cK_len, cK_len, ← cK_all n hn]
 have e1 : cK r 49 = cK (fun x y => decide (x < y) && r x y) 49 + cK (sw fun x y => decide (x < y) && r y x) 49 := cK_add (fun x y hx hy => by
   unfold b2 sw
   rcases Nat.lt_trichotomy x y with h1 | h1 | h1
   · have h2 : ¬ y < x := by omega
     simp [h1, h2]
   · subst h1; simp [hir x hx]
   · have h2 : ¬ x < y := by omega
     simp [h1, h2]) 49 (Nat.le_refl _)
 rw [e1, ← cK_sw]
 have e2 : cK (fun x y => decide (x < y) && decide (y < n)) 49 = cK (P46 n (otR n (both r))) 49 + cK (fun x y => decide (x < y) && jo r (sw r) x y) 49 := cK_add (fun x y hx hy => by
   unfold b2 P46 otR both jo sw
   cases h1 : r x y with
   | true => have := hlt x y h1; by_cases h2 : x < y <;> simp [h2, this.2, h1]
   | false =>
     cases h2 : r y x with
     | true => have := hlt y x h2; by_cases h3 : x < y <;> simp [h3, this.1, h1, h2]
     | false =>
       by_cases h3 : x < y
       · by_cases h4 : y < n
         · have : x < n := by omega
           have h5 : ¬ x = y := by omega
           simp [h3, h4, this, h5, h1, h2]
         · simp [h3, h4, h1, h2]
       · simp [h3]) 49 (Nat.le_refl _)
 have e3 : cK (fun x y => decide (x < y) && jo r (sw r) x y) 49 = cK (fun x y => decide (x < y) && r x y) 49 + cK (fun x y => decide (x < y) && r y x) 49 := cK_add (fun x y hx hy => by
   unfold b2 jo sw
   cases h1 : r x y with
   | true =>
     cases h2 : r y x with
     | true => exact (ha x y hx hy h1 h2).elim
     | false => by_cases h3 : x < y <;> simp [h3, h1, h2]
   | false =>
     cases h2 : r y x with
     | true => by_cases h3 : x < y <;> simp [h3, h1, h2]
     | false => by_cases h3 : x < y <;> simp [h3, h1, h2]) 49 (Nat.le_refl _)
 omega
end Go.Am.Or

/- Orders: the law of Pnueli. -/
namespace Go.Am.Or
open Go Go.Am Go.Proofs
/-- What is known of the graph and of the lines. -/
structure F7 (m : Nat) (e : LP) : Prop where
 m1 : 1 ≤ m
 m7 : m ≤ 7
 ge : grOk m e
 go : grOk m (L46 m (otR m (eg e)))
 tk : (orR m (eg e)).2 = true → orOk m (orL m e)
 too : (orR m (eg (L46 m (otR m (eg e))))).2 = (orR m (otR m (eg e))).2
 rl : (orR m (eg e)).2 = true → rzB m (orL m e) = (orR m (otR m (eg e))).2
structure F7b (k : Nat) (l : List Int × List Int) : Prop where
 k1 : 1 ≤ k
 k7 : k ≤ 7
 o : ok60 k l
 e0 : cmE k l.1 l.2 = 0
 dl : (dnL k l).length ≤ 49
 cl : (cnL k l).length ≤ 49
 sum : ((dnL k l).length : Int) + (cnL k l).length = Int.tdiv ((k : Int) * ((k : Int) - 1)) 2
 no : ∀ i, i < (cnL k l).length → hasB (dnL k l) (minI ((cnL k l).getD i (0, 0)).1 ((cnL k l).getD i (0, 0)).2, maxI ((cnL k l).getD i (0, 0)).1 ((cnL k l).getD i (0, 0)).2) = false
 ok : orOk k (cnL k l)
def st7 (k : Nat) (d c : LP) (i : Nat) : St := ⟨(dd 23 ++ .int .i64 k :: .dead :: .sl P2 d :: .dead :: .sl P2 c :: .dead :: .int .i64 i :: dd 138), []⟩
def ex7 (k : Nat) (d c : LP) : List (List Nat × Ex) := [([23, 27], ⟨0, Unit, fun _ => True, fun _ => ⟨(dd 23 ++ .int .i64 k :: dd 3 ++ .sl P2 c :: dd 140), []⟩⟩)]
def h7 (k : Nat) (d c : LP) : Hint := ⟨chk 0 [23, 25, 27, 29] (fun i => i ≤ c.length) (st7 k d c), (ex7 k d c).map (·.2)⟩
end Go.Am.Or

/- Orders, plain: Golumbic's theorem: the classes of arrows, and graphs without a clash. -/
namespace Go.Am.Or
open Go Go.Am Go.Proofs
/-- What an arrow forces, step by step. -/
inductive Rc (f : RF) (a b : Nat) : Nat → Nat → Prop
 | refl : Rc f a b a b
 | hd {c d e : Nat} : Rc f a b c d → f c e = true → f d e = false → Rc f a b c e
 | tl {c d e : Nat} : Rc f a b c d → f e d = true → f c e = false → Rc f a b e d
theorem Rc.trans {f : RF} {a b c d e g : Nat} (h1 : Rc f a b c d) (h2 : Rc f c d e g) : Rc f a b e g := by
 induction h2 with
 | refl => exact h1
 | hd _ h3 h4 ih => exact .hd ih h3 h4
 | tl _ h3 h4 ih => exact .tl ih h3 h4
/-- A symmetric relation without loops. -/
structure sg (f : RF) : Prop where
 sy : ∀ x y, f x y = f y x
 ir : ∀ x, f x x = false
theorem Rc.ar {f : RF} {a b c d : Nat} (hab : f a b = true) (h : Rc f a b c d) : f c d = true := by
 cases h with
 | refl => exact hab
 | hd _ h _ => exact h
 | tl _ h _ => exact h
theorem Rc.symm {f : RF} (hf : sg f) {a b c d : Nat} (hab : f a b = true) (h : Rc f a b c d) : Rc f c d a b := by
 induction h with
 | refl => exact .refl
 | @hd c d e h1 h2 h3 ih =>
   have : Rc f c e c d := .hd .refl (h1.ar hab) (by rw [hf.sy]; exact h3)
   exact this.trans ih
 | @tl c d e h1 h2 h3 ih =>
   have : Rc f e d c d := .tl .refl (h1.ar hab) (by rw [hf.sy]; exact h3)
   exact this.trans ih
theorem Rc.inv {f : RF} (hf : sg f) {a b c d : Nat} (h : Rc f a b c d) : Rc f b a d c := by
 induction h with
 | refl => exact .refl
 | hd _ h2 h3 ih => exact .tl ih (by rw [hf.sy]; exact h2) h3
 | tl _ h2 h3 ih => exact .hd ih (by rw [hf.sy]; exact h2) h3
def noCl (f : RF) : Prop := ∀ a b, f a b = true → ¬ Rc f a b b a
/-- The triangle lemma. -/
theorem tri {f : RF} (hf : sg f) {a b c : Nat} (hab : f a b = true) (hac : f a c = true) (hbc : f b c = true) (h1 : ¬ Rc f b c a c) (h2 : ¬ Rc f b c b a) {b' c' : Nat} (h : Rc f b c b' c') : Rc f a b a b' ∧ Rc f a c a c' := by
 induction h with
 | refl => exact ⟨.refl, .refl⟩
 | @hd p q e g1 g2 g3 ih =>
   refine ⟨ih.1, .hd ih.2 ?_ g3⟩
   cases hq : f a e with
   | true => rfl
   | false =>
     have hap : f a p = true := ih.1.ar hab
     have : Rc f p e p a := .hd .refl (by rw [hf.sy]; exact hap) (by rw [hf.sy]; exact hq)
     have h3 : Rc f b c p e := .hd g1 g2 g3
     exact absurd ((h3.trans this).trans ((ih.1.inv hf).symm hf (by rw [hf.sy]; exact hab))) h2
 | @tl p q e g1 g2 g3 ih =>
   refine ⟨.hd ih.1 ?_ g3, ih.2⟩
   cases hq : f a e with
   | true => rfl
   | false =>
     have haq : f a q = true := ih.2.ar hac
     have : Rc f e q a q := .tl .refl haq (by rw [hf.sy]; exact hq)
     have h3 : Rc f b c e q := .tl g1 g2 g3
     exact absurd ((h3.trans this).trans (ih.2.symm hf hac)) h1
/-- No arrow of the class touches the third corner. -/
theorem tri_no {f : RF} (hf : sg f) {a b c : Nat} (hab : f a b = true) (hac : f a c = true) (hbc : f b c = true) (h1 : ¬ Rc f b c a c) (h2 : ¬ Rc f b c b a) {b' c' : Nat} (h : Rc f b c b' c') : b' ≠ a ∧ c' ≠ a := by
 obtain ⟨g1, g2⟩ := tri hf hab hac hbc h1 h2 h
 refine ⟨fun e => ?_, fun e => ?_⟩
 · have := g1.ar hab
   rw [e, hf.ir] at this; cases this
 · have := g2.ar hac
   rw [e, hf.ir] at this; cases this
/-- Without a clash each class is transitive. -/
theorem cl_tr {f : RF} (hf : sg f) (hn : noCl f) {a b c : Nat} (hab : f a b = true) (h : Rc f a b b c) : Rc f a b a c := by
 have hbc := h.ar hab
 have hac : f a c = true := by
   cases hq : f a c with
   | true => rfl
   | false =>
     have : Rc f a b c b := .tl .refl (by rw [hf.sy]; exact hbc) hq
     have h3 := h.symm hf hab
     exact absurd (h3.trans this) (hn b c hbc)
 by_cases h1 : Rc f b c a c
 · exact h.trans h1
 · by_cases h2 : Rc f b c b a
   · exact absurd (h.trans h2) (hn a b hab)
   · exact absurd rfl (tri_no hf hab hac hbc h1 h2 (h.symm hf hab)).1
/-- The class of an arrow, taken away. -/
structure cut (f g : RF) (u v : Nat) : Prop where
 e : ∀ x y, g x y = true ↔ f x y = true ∧ ¬ Rc f u v x y ∧ ¬ Rc f u v y x
section
variable {f g : RF} {u v : Nat}
theorem cut.sg (h : cut f g u v) (hf : Or.sg f) : Or.sg g := by
 refine ⟨fun x y => ?_, fun x => ?_⟩
 · rw [Bool.eq_iff_iff, h.e, h.e, hf.sy x y]
   exact ⟨fun ⟨h1, h2, h3⟩ => ⟨h1, h3, h2⟩, fun ⟨h1, h2, h3⟩ => ⟨h1, h3, h2⟩⟩
 · cases hx : g x x with
   | false => rfl
   | true => have := ((h.e x x).mp hx).1; rw [hf.ir] at this; cases this
/-- An arrow beside the class of (u, v). -/
structure nA (f : RF) (u v p q : Nat) : Prop where
 ar : f p q = true
 n1 : ¬ Rc f u v p q
 n2 : ¬ Rc f u v q p
theorem nA.of (hf : Or.sg f) {p q x y : Nat} (h : nA f u v p q) (h1 : Rc f p q x y) : nA f u v x y :=
 ⟨h1.ar h.ar, fun h2 => h.n1 (h2.trans (h1.symm hf h.ar)), fun h2 => h.n2 (h2.trans ((h1.symm hf h.ar).inv hf))⟩
theorem nA.inv (hf : Or.sg f) {p q : Nat} (h : nA f u v p q) : nA f u v q p := ⟨by rw [hf.sy]; exact h.ar, h.n2, h.n1⟩
/-- Two classes are joined, the class of (u, v) being away. -/
def Lk (f : RF) (u v p q r s : Nat) : Prop := ∃ a b c, (Rc f u v b c ∨ Rc f u v c b) ∧ ((Rc f p q a b ∧ Rc f r s a c) ∨ (Rc f p q b a ∧ Rc f r s c a))
theorem Lk.inv (hf : Or.sg f) {p q r s : Nat} (h : Lk f u v p q r s) : Lk f u v q p s r := by
 obtain ⟨a, b, c, h1, h2⟩ := h
 refine ⟨a, b, c, h1, ?_⟩
 rcases h2 with ⟨h2, h3⟩ | ⟨h2, h3⟩
 · exact .inr ⟨h2.inv hf, h3.inv hf⟩
 · exact .inl ⟨h2.inv hf, h3.inv hf⟩
theorem Lk.symm {p q r s : Nat} (h : Lk f u v p q r s) : Lk f u v r s p q := by
 obtain ⟨a, b, c, h1, h2⟩ := h
 exact ⟨a, c, b, h1.symm, h2.imp (fun h => ⟨h.2, h.1⟩) fun h => ⟨h.2, h.1⟩⟩
theorem Lk.left (hf : Or.sg f) {p q r s x y : Nat} (hpq : f p q = true) (hc : Rc f p q x y) (h : Lk f u v p q r s) : Lk f u v x y r s := by
 obtain ⟨a, b, c, h1, h2⟩ := h
 have hs := hc.symm hf hpq
 exact ⟨a, b, c, h1, h2.imp (fun h => ⟨hs.trans h.1, h.2⟩) fun h => ⟨hs.trans h.1, h.2⟩⟩
/-- No class is joined with its own inverse. -/
theorem Lk.no (hf : Or.sg f) (hn : noCl f) {p q : Nat} (hpq : nA f u v p q) (h : Lk f u v p q q p) : False := by
 have key : ∀ p q, nA f u v p q → (∃ a b c, (Rc f u v b c ∨ Rc f u v c b) ∧ (Rc f p q a b ∧ Rc f q p a c)) → False := fun p q hpq ⟨a, b, c, h1, h2, h3⟩ => by
   have h4 : Rc f c a a b := ((h3.symm hf (hpq.inv hf).ar).inv hf).trans h2
   have hca : f c a = true := (h3.inv hf).ar hpq.ar
   have h5 := cl_tr hf hn hca h4
   have h6 : Rc f p q c b := (h3.inv hf).trans h5
   have := hpq.of hf h6
   rcases h1 with h1 | h1
   · exact this.n2 h1
   · exact this.n1 h1
 obtain ⟨a, b, c, h1, h2 | h2⟩ := h
 · exact key p q hpq ⟨a, b, c, h1, h2⟩
 · exact key q p (hpq.inv hf) ⟨a, b, c, h1, h2.1.inv hf, h2.2.inv hf⟩
end
end Go.Am.Or

/- Orders: what is reached, and when an order is found. -/
namespace Go.Am.Or
open Go Go.Am Go.Proofs
theorem gr.sg {n : Nat} {f : RF} (h : gr n f) : Or.sg f := ⟨h.sy, h.ir⟩
def rcy (f : RF) (a b : Nat) (y : PA) : Prop := ∃ c d : Nat, y = ((c : Int), (d : Int)) ∧ Rc f a b c d
/-- The part of a relation that goes along the edges of g is an order of g. -/
structure part (n : Nat) (g r : RF) : Prop where
 one : ∀ x y, g x y = true → (r x y = true ∨ r y x = true)
 an : ∀ x y, g x y = true → r x y = true → r y x = false
 tr : ∀ x y z, g x y = true → r x y = true → g y z = true → r y z = true → g x z = true ∧ r x z = true
end Go.Am.Or

/- Orders: an order is found just if there is no clash. -/
namespace Go.Am.Or
open Go Go.Am Go.Proofs
theorem cut.gr {n : Nat} {g h : RF} {a b : Nat} (hc : cut g h a b) (hg : Or.gr n g) : Or.gr n h :=
 ⟨hg.n1, hg.hn, fun x y hxy => hg.lt x y ((hc.e x y).mp hxy).1, (hc.sg hg.sg).sy, (hc.sg hg.sg).ir⟩
theorem or_closed {n : Nat} {f r : RF} (hg : gr n f) (h : isOr n f r) {a b c d : Nat} (hab : r a b = true) (hc : Rc f a b c d) : r c d = true := by
 have hf := h.oi a b hab
 have h7 : ∀ x y, f x y = true → x < 7 ∧ y < 7 := fun x y hxy => by have := hg.lt x y hxy; have := hg.hn; omega
 have htr := of_decide_eq_true h.tr
 induction hc with
 | refl => exact hab
 | @hd c d e h1 h2 h3 ih =>
   have l1 := h7 c e h2
   have hcd := h.oi c d ih
   have l2 := h7 c d hcd
   rcases (h.of c e l1.1 l1.2).mp h2 with h4 | h4
   · exact h4
   · have := (htr e l1.2 c l1.1 h4).2 d l2.2 ih
     have := h.oi e d this
     rw [hg.sy, h3] at this; cases this
 | @tl c d e h1 h2 h3 ih =>
   have l1 := h7 e d h2
   have hcd := h.oi c d ih
   have l2 := h7 c d hcd
   rcases (h.of e d l1.1 l1.2).mp h2 with h4 | h4
   · exact h4
   · have := (htr c l2.1 d l2.2 ih).2 e l1.1 h4
     have := h.oi c e this
     rw [h3] at this; cases this
theorem isOr.noCl {n : Nat} {f r : RF} (hg : gr n f) (h : isOr n f r) : noCl f := fun a b hab hc => by
 have h7 : a < 7 ∧ b < 7 := by have := hg.lt a b hab; have := hg.hn; omega
 have htr := of_decide_eq_true h.tr
 have no : ∀ x y, x < 7 → y < 7 → r x y = true → r y x = true → False := fun x y hx hy h1 h2 => by
   have := (htr x hx y hy h1).1
   rw [h2] at this; cases this
 rcases (h.of a b h7.1 h7.2).mp hab with h1 | h1
 · exact no a b h7.1 h7.2 h1 (or_closed hg h h1 hc)
 · exact no b a h7.2 h7.1 h1 (or_closed hg h h1 (hc.inv hg.sg))
end Go.Am.Or

/- Orders: the reference: arrows, others, forces, classes. Printed by genI1.py. -/
namespace Go.Am.Or
open Go Go.Am Go.Proofs
def jr (e : LP) (x y : Nat) : Bool := !decide (x = y) && jnB e x y
noncomputable def L57_0 : Code := lp (bodyOf Try.f57) 0
noncomputable def L57_2 : Code := lp (bodyOf Try.f57) 2
def az57 (n : Nat) (e : LP) (a : Nat) : St := ⟨(.int .i64 n :: .sl P2 e :: dd 3 ++ nl :: .int .i64 a :: dd 27), []⟩
def at57 (n : Nat) (e : LP) (a : Nat) (r : LP) : St := ⟨(.int .i64 n :: .sl P2 e :: dd 3 ++ .own 0 0 :: .int .i64 a :: dd 27), [.sc 0 52 P2 r]⟩
def bz57 (n : Nat) (e : LP) (a b : Nat) : St := ⟨(.int .i64 n :: .sl P2 e :: dd 3 ++ nl :: .int .i64 a :: .int .i64 b :: dd 26), []⟩
def bt57 (n : Nat) (e : LP) (a : Nat) (r : LP) (b : Nat) : St := ⟨(.int .i64 n :: .sl P2 e :: dd 3 ++ .own 0 0 :: .int .i64 a :: .int .i64 b :: dd 26), [.sc 0 52 P2 r]⟩
def fb57 (n : Nat) (e : LP) (a : Nat) : List Fam := [⟨Nat, fun b => b ≤ n ∧ prK (P62 n (jr e)) 7 (a * 7 + b) = [], bz57 n e a, fun b => n - b, fun _ _ => none⟩, ⟨Nat, fun b => b ≤ n, fun b => bt57 n e a (prK (P62 n (jr e)) 7 (a * 7 + b)) b, fun b => n - b, fun _ _ => none⟩]
def xb57 (n : Nat) (e : LP) (a : Nat) : List (List Nat × Ex) := [([0, 1, 5, 6], ⟨2, Unit, fun _ => prK (P62 n (jr e)) 7 (a * 7 + n) = [], fun _ => az57 n e a⟩), ([0, 1, 5, 6], ⟨2, Unit, fun _ => True, fun _ => at57 n e a (prK (P62 n (jr e)) 7 (a * 7 + n))⟩)]
def hb57 (n : Nat) (e : LP) (a : Nat) : Hint := ⟨chks 0 [0, 1, 5, 6, 7] (fb57 n e a), (xb57 n e a).map (·.2)⟩
theorem loop57b (n : Nat) (e : LP) (hn : n ≤ 7) (he : e.length < 1000000000000000) (a : Nat) (ha : a < n) (R : Exit → St → Prop) : LoopOK (X [e58]) L57_2 (hb57 n e a) R := by
 have hP : ∀ b, b < n → (P62 n (jr e)) a b = (!decide (a = b) && jnB e a b) := fun b h1 => by
   have hab := decide_eq_true ha
   have hbn := decide_eq_true h1
   simp only [P46, P62, jr, hab, hbn, Bool.true_and]
 refine loop_fams (X_ok _) [0, 1, 5, 6, 7] (fb57 n e a) (xb57 n e a) 250 ⟨fun (b : Nat) hb => ?_, fun (b : Nat) hb => ?_, trivial⟩
 · refine of_eq (q := (fun (j : Nat) => (fun (h : Prop) => (fun (g : Int) => (fun (i : Int) => (fun (f : Int) => (fun (d : Int) => (fun (c : Prop) => h ∧ h ∧ h ∧ (g < f → h ∧ h ∧ h ∧ h ∧ (¬d = g → h ∧ h ∧ h ∧ (List.length e + 1 ≤ 1000000000000000 ∧ h) ∧ h ∧ (jnB e d g = true → h ∧ h ∧ h ∧ h ∧ h ∧ sumPre (0 : Nat) [(d, g)].length (nat_lit 16) ∧ h ∧ h ∧ inR .i64 i ∧ h ∧ ((∃ (y : Nat), ((y ≤ n ∧ prK (P62 n (jr e)) j (a * j + y) = []) ∧ n - y < n - b) ∧ (f = f ∧ e = e ∧ False ∧ d = d ∧ i = (y : Int) ∧ h) ∧ h) ∨ ∃ (y : Nat), (y ≤ n ∧ n - y < n - b) ∧ (f = f ∧ e = e ∧ h ∧ d = d ∧ i = (y : Int) ∧ h) ∧ [(d, g)] = prK (P62 n (jr e)) j (a * j + y) ∧ h)) ∧ (jnB e d g = false → c)) ∧ (¬¬d = g → h ∧ c)) ∧ (¬g < f → (∃ (y : Unit), prK (P62 n (jr e)) j (a * j + n) = [] ∧ (f = f ∧ e = e ∧ h ∧ d = d ∧ h) ∧ h) ∨ ∃ (y : Unit), h ∧ (f = f ∧ e = e ∧ False ∧ d = d ∧ h) ∧ False)) (h ∧ inR .i64 i ∧ h ∧ ((∃ (y : Nat), ((y ≤ n ∧ prK (P62 n (jr e)) j (a * j + y) = []) ∧ n - y < n - b) ∧ (f = f ∧ e = e ∧ h ∧ d = d ∧ i = (y : Int) ∧ h) ∧ h) ∨ ∃ (y : Nat), (y ≤ n ∧ n - y < n - b) ∧ (f = f ∧ e = e ∧ False ∧ d = d ∧ i = (y : Int) ∧ h) ∧ False))) ((a : Int))) ((n : Int))) (g + 1)) ((b : Int))) (True)) ((7 : Nat))) (by kernel_rfl) ?_
   simp only [zz]
   obtain ⟨b1, b2⟩ := hb
   refine ⟨fun h1 => ?_, fun h1 => by rwa [show b = n by omega] at b2⟩
   have h1 : b < n := by omega
   have hst := prK_step (P := P62 n (jr e)) (i := a) (j := b) (w := 7) (by omega)
   rw [hP b h1] at hst
   have yes : (!decide (a = b) && jnB e a b) = true → ∃ y : Nat, ((y ≤ n) ∧ n - y < n - b) ∧ (b : Int) + 1 = y ∧ [((a : Int), (b : Int))] = prK (P62 n (jr e)) 7 (a * 7 + y) := fun h => ⟨b + 1, ⟨by omega, by omega⟩, by omega, by rw [hst, if_pos h, b2]; rfl⟩
   have no : (!decide (a = b) && jnB e a b) = false → ∃ y : Nat, (((y ≤ n) ∧ prK (P62 n (jr e)) 7 (a * 7 + y) = []) ∧ n - y < n - b) ∧ (b : Int) + 1 = y := fun h => ⟨b + 1, ⟨⟨by omega, by rw [hst, if_neg (by rw [h]; decide)]; exact b2⟩, by omega⟩, by omega⟩
   have iR := in1 (i := b) (by omega)
   have sP : sumPre 0 [((a : Int), (b : Int))].length 16 := by simp [sumPre]
   clear hst hP b2
   have he1 : e.length + 1 ≤ 1000000000000000 := by omega
   (repeat' first | with_reducible exact trivial | with_reducible apply And.intro | intro _)
   all_goals first | exact iR | exact sP | assumption | exact yes (by clear yes no; simp_all [Int.ofNat_inj]) | exact no (by clear yes no; simp_all [Int.ofNat_inj])
 · refine of_eq (q := (fun (k : Nat) => (fun (m : LP) => (fun (j : Prop) => (fun (i : Int) => (fun (h : Int) => (fun (l : Int) => (fun (g : Int) => (fun (f : LP) => (fun (d : Prop) => (fun (c : Prop) => j ∧ j ∧ j ∧ (h < i → j ∧ j ∧ j ∧ j ∧ (¬g = h → j ∧ j ∧ j ∧ (List.length e + 1 ≤ 1000000000000000 ∧ j) ∧ j ∧ (jnB e g h = true → j ∧ j ∧ j ∧ j ∧ j ∧ sumPre (List.length f) [(g, h)].length (nat_lit 16) ∧ j ∧ j ∧ inR .i64 l ∧ j ∧ (d ∨ ∃ (y : Nat), (y ≤ n ∧ n - y < n - b) ∧ (i = i ∧ e = e ∧ j ∧ g = g ∧ l = (y : Int) ∧ j) ∧ f ++ [(g, h)] = prK (P62 n (jr e)) k (a * k + y) ∧ j)) ∧ (jnB e g h = false → c)) ∧ (¬¬g = h → j ∧ c)) ∧ (¬h < i → (∃ (y : Unit), m = [] ∧ (i = i ∧ e = e ∧ False ∧ g = g ∧ j) ∧ j) ∨ ∃ (y : Unit), j ∧ (i = i ∧ e = e ∧ j ∧ g = g ∧ j) ∧ f = m ∧ j)) (j ∧ inR .i64 l ∧ j ∧ (d ∨ ∃ (y : Nat), (y ≤ n ∧ n - y < n - b) ∧ (i = i ∧ e = e ∧ j ∧ g = g ∧ l = (y : Int) ∧ j) ∧ f = prK (P62 n (jr e)) k (a * k + y) ∧ j))) (∃ (y : Nat), ((y ≤ n ∧ prK (P62 n (jr e)) k (a * k + y) = []) ∧ n - y < n - b) ∧ (i = i ∧ e = e ∧ False ∧ g = g ∧ l = (y : Int) ∧ j) ∧ j)) (prK (P62 n (jr e)) k (a * k + b))) ((a : Int))) (h + 1)) ((b : Int))) ((n : Int))) (True)) (prK (P62 n (jr e)) k (a * k + n))) ((7 : Nat))) (by kernel_rfl) ?_
   simp only [zz]
   have b1 : b ≤ n := hb
   have hlen := prK_len (P62 n (jr e)) 7 (a * 7 + b)
   refine ⟨fun h1 => ?_, fun h1 => by rw [show b = n by omega]⟩
   have h1 : b < n := by omega
   have hst := prK_step (P := P62 n (jr e)) (i := a) (j := b) (w := 7) (by omega)
   rw [hP b h1] at hst
   have yes : (!decide (a = b) && jnB e a b) = true → ∃ y : Nat, ((y ≤ n) ∧ n - y < n - b) ∧ (b : Int) + 1 = y ∧ prK (P62 n (jr e)) 7 (a * 7 + b) ++ [((a : Int), (b : Int))] = prK (P62 n (jr e)) 7 (a * 7 + y) := fun h => ⟨b + 1, ⟨by omega, by omega⟩, by omega, by rw [hst, if_pos h]⟩
   have no : (!decide (a = b) && jnB e a b) = false → ∃ y : Nat, ((y ≤ n) ∧ n - y < n - b) ∧ (b : Int) + 1 = y ∧ prK (P62 n (jr e)) 7 (a * 7 + b) = prK (P62 n (jr e)) 7 (a * 7 + y) := fun h => ⟨b + 1, ⟨by omega, by omega⟩, by omega, by rw [hst, if_neg (by rw [h]; decide)]⟩
   have iR := in1 (i := b) (by omega)
   have sP : sumPre (prK (P62 n (jr e)) 7 (a * 7 + b)).length [((a : Int), (b : Int))].length 16 := by unfold sumPre; simp; omega
   clear hst hP
   have he1 : e.length + 1 ≤ 1000000000000000 := by omega
   (repeat' first | with_reducible exact trivial | with_reducible apply And.intro | intro _)
   all_goals first | exact iR | exact sP | assumption | exact yes (by clear yes no; simp_all [Int.ofNat_inj]) | exact no (by clear yes no; simp_all [Int.ofNat_inj])
def fa57 (n : Nat) (e : LP) : List Fam := [⟨Nat, fun a => a ≤ n ∧ prK (P62 n (jr e)) 7 (a * 7) = [], az57 n e, fun a => n - a, fun a _ => some (hb57 n e a)⟩, ⟨Nat, fun a => a ≤ n, fun a => at57 n e a (prK (P62 n (jr e)) 7 (a * 7)), fun a => n - a, fun a _ => some (hb57 n e a)⟩]
def xa57 (n : Nat) (e : LP) : List (List Nat × Ex) := [([5], ⟨0, Unit, fun _ => L62 n (jr e) = [], fun _ => ⟨(dd 5 ++ nl :: dd 28), []⟩⟩), ([5], ⟨0, Unit, fun _ => True, fun _ => ⟨(dd 5 ++ .own 0 0 :: dd 28), [.sc 0 52 P2 (L62 n (jr e))]⟩⟩)]
def ha57 (n : Nat) (e : LP) : Hint := ⟨chks 0 [0, 1, 5, 6] (fa57 n e), (xa57 n e).map (·.2)⟩
theorem loop57a (n : Nat) (e : LP) (hn : n ≤ 7) (he : e.length < 1000000000000000) (R : Exit → St → Prop) : LoopOK (X [e58]) L57_0 (ha57 n e) R := by
 have hrow : ∀ a, prK (P62 n (jr e)) 7 (a * 7 + n) = prK (P62 n (jr e)) 7 ((a + 1) * 7) := fun a => by
   rw [Nat.succ_mul]
   exact (prK_row hn (by omega) fun j h1 h2 => by simp only [P46, P62]; simp; omega).symm
 have hbeg : ∀ a, a < n → prK (P62 n (jr e)) 7 (a * 7) = prK (P62 n (jr e)) 7 (a * 7 + 0) := fun a ha => (prK_row (b := 0) (by omega) (by omega) fun j h1 h2 => by simp only [P46, P62]; simp; omega).symm
 have hall : prK (P62 n (jr e)) 7 (n * 7) = L62 n (jr e) := prK_rows hn fun i j h => by simp only [P46, P62]; simp; omega
 refine loop_fams (X_ok _) [0, 1, 5, 6] (fa57 n e) (xa57 n e) 250 ⟨fun (a : Nat) ha => ?_, fun (a : Nat) ha => ?_, trivial⟩
 · have hL := fun h1 R => loop57b n e hn he a h1 R
   have hrow := hrow a
   have hbeg := hbeg a
   refine of_eq (q := (fun (f : Prop) => (fun (d : Nat) => (fun (h : LP) => (fun (c : Int) => (fun (g : Int) => (fun (b : Int) => f ∧ f ∧ f ∧ (c < b → f ∧ LoopOK (X [e58]) L57_2 (hb57 n e a) (bodyR (X [e58]).m0 (xa57 n e) R) ∧ ((∃ (y : Nat), (y ≤ n ∧ prK (P62 n (jr e)) d (a * d + y) = []) ∧ (b = b ∧ e = e ∧ f ∧ c = c ∧ (0 : Int) = (y : Int) ∧ f) ∧ f) ∨ ∃ (y : Nat), y ≤ n ∧ (b = b ∧ e = e ∧ False ∧ c = c ∧ (0 : Int) = (y : Int) ∧ f) ∧ False) ∧ (∀ (y : Unit), h = [] → f ∧ inR .i64 g ∧ f ∧ ((∃ (y : Nat), ((y ≤ n ∧ prK (P62 n (jr e)) d (y * d) = []) ∧ n - y < n - a) ∧ (b = b ∧ e = e ∧ f ∧ g = (y : Int) ∧ f) ∧ f) ∨ ∃ (y : Nat), (y ≤ n ∧ n - y < n - a) ∧ (b = b ∧ e = e ∧ False ∧ g = (y : Int) ∧ f) ∧ False)) ∧ (∀ (y : Unit), f → f ∧ inR .i64 g ∧ f ∧ ((∃ (y : Nat), ((y ≤ n ∧ prK (P62 n (jr e)) d (y * d) = []) ∧ n - y < n - a) ∧ (b = b ∧ e = e ∧ False ∧ g = (y : Int) ∧ f) ∧ f) ∨ ∃ (y : Nat), (y ≤ n ∧ n - y < n - a) ∧ (b = b ∧ e = e ∧ f ∧ g = (y : Int) ∧ f) ∧ h = prK (P62 n (jr e)) d (y * d) ∧ f)) ∧ f) ∧ (¬c < b → (∃ (y : Unit), L62 n (jr e) = [] ∧ (f ∧ f) ∧ f) ∨ ∃ (y : Unit), f ∧ (False ∧ f) ∧ False)) ((n : Int))) (c + 1)) ((a : Int))) (prK (P62 n (jr e)) d (a * d + n))) ((7 : Nat))) (True)) (by kernel_rfl) ?_
   simp only [zz]
   obtain ⟨a1, a2⟩ := ha
   have z0 : a < n → ∃ y : Nat, ((y ≤ n) ∧ prK (P62 n (jr e)) 7 (a * 7 + y) = []) ∧ (0 : Int) = y := fun h => ⟨0, ⟨by omega, by rw [← hbeg h]; exact a2⟩, by omega⟩
   refine ⟨fun h1 => ⟨hL (by omega) _, z0 (by omega), fun _ h2 => ⟨in1 (by omega), a + 1, ⟨⟨by omega, by rw [← hrow]; exact h2⟩, by omega⟩, by omega⟩, fun _ _ => ⟨in1 (by omega), a + 1, ⟨by omega, by omega⟩, by omega, hrow⟩⟩, fun h1 => ?_⟩
   have e0 : a = n := by omega
   rw [← hall]; rw [e0] at a2; exact a2
 · have hL := fun h1 R => loop57b n e hn he a h1 R
   have hrow := hrow a
   have hbeg := hbeg a
   refine of_eq (q := (fun (f : Prop) => (fun (d : Int) => (fun (g : Int) => (fun (c : Nat) => (fun (i : LP) => (fun (h : LP) => (fun (b : Int) => f ∧ f ∧ f ∧ (d < b → f ∧ LoopOK (X [e58]) L57_2 (hb57 n e a) (bodyR (X [e58]).m0 (xa57 n e) R) ∧ ((∃ (y : Nat), (y ≤ n ∧ prK (P62 n (jr e)) c (a * c + y) = []) ∧ (b = b ∧ e = e ∧ False ∧ d = d ∧ (0 : Int) = (y : Int) ∧ f) ∧ f) ∨ ∃ (y : Nat), y ≤ n ∧ (b = b ∧ e = e ∧ f ∧ d = d ∧ (0 : Int) = (y : Int) ∧ f) ∧ i = prK (P62 n (jr e)) c (a * c + y) ∧ f) ∧ (∀ (y : Unit), h = [] → f ∧ inR .i64 g ∧ f ∧ ((∃ (y : Nat), ((y ≤ n ∧ prK (P62 n (jr e)) c (y * c) = []) ∧ n - y < n - a) ∧ (b = b ∧ e = e ∧ f ∧ g = (y : Int) ∧ f) ∧ f) ∨ ∃ (y : Nat), (y ≤ n ∧ n - y < n - a) ∧ (b = b ∧ e = e ∧ False ∧ g = (y : Int) ∧ f) ∧ False)) ∧ (∀ (y : Unit), f → f ∧ inR .i64 g ∧ f ∧ ((∃ (y : Nat), ((y ≤ n ∧ prK (P62 n (jr e)) c (y * c) = []) ∧ n - y < n - a) ∧ (b = b ∧ e = e ∧ False ∧ g = (y : Int) ∧ f) ∧ f) ∨ ∃ (y : Nat), (y ≤ n ∧ n - y < n - a) ∧ (b = b ∧ e = e ∧ f ∧ g = (y : Int) ∧ f) ∧ h = prK (P62 n (jr e)) c (y * c) ∧ f)) ∧ f) ∧ (¬d < b → (∃ (y : Unit), L62 n (jr e) = [] ∧ (False ∧ f) ∧ f) ∨ ∃ (y : Unit), f ∧ (f ∧ f) ∧ i = L62 n (jr e) ∧ f)) ((n : Int))) (prK (P62 n (jr e)) c (a * c + n))) (prK (P62 n (jr e)) c (a * c))) ((7 : Nat))) (d + 1)) ((a : Int))) (True)) (by kernel_rfl) ?_
   simp only [zz]
   have a1 : a ≤ n := ha
   refine ⟨fun h1 => ⟨hL (by omega) _, ⟨0, by omega, rfl, hbeg (by omega)⟩, fun _ h2 => ⟨in1 (by omega), a + 1, ⟨⟨by omega, by rw [← hrow]; exact h2⟩, by omega⟩, by omega⟩, fun _ _ => ⟨in1 (by omega), a + 1, ⟨by omega, by omega⟩, by omega, hrow⟩⟩, fun h1 => ?_⟩
   have e0 : a = n := by omega
   rw [← hall, e0]
theorem call57 (n : Nat) (hn : n ≤ 7) (e : LP) (he : e.length < 1000000000000000) : GCall Try.prog gl 57 true [.int .i64 n, .sl P2 e] [] [.sl P2 (L62 n (jr e))] [] := by
 refine gcall_of (X := (X [e58])) ((X_ok _)) (f := 57) (fn := Try.f57) (c := bodyOf Try.f57) (by kernel_rfl) (by kernel_rfl) (view := true) (rvs := [.tmp 4]) (by kernel_rfl) (H := (fun _ => some (ha57 n e))) 150 (by kernel_rfl) ?_
 have hL := fun R => loop57a n e hn he R
 refine of_eq (q := (fun (b : Prop) => (fun (a : LP) => b ∧ b ∧ b ∧ LoopOK (X [e58]) L57_0 (ha57 n e) (RetR (X [e58]) true true [ResultVar.tmp (4 : Tmp)] [AV.sl P2 a] []) ∧ ((∃ (y : Nat), (y ≤ n ∧ prK (P62 n (jr e)) (7 : Nat) (y * 7) = []) ∧ ((n : Int) = (n : Int) ∧ e = e ∧ b ∧ (0 : Int) = (y : Int) ∧ b) ∧ b) ∨ ∃ (y : Nat), y ≤ n ∧ ((n : Int) = (n : Int) ∧ e = e ∧ False ∧ (0 : Int) = (y : Int) ∧ b) ∧ False) ∧ (∀ (y : Unit), a = [] → b ∧ b ∧ b ∧ (([] : List (Int × Int)) = a ∧ b) ∧ b) ∧ (∀ (y : Unit), b → b ∧ b ∧ b ∧ (a = a ∧ b) ∧ b) ∧ b) (L62 n (jr e))) (True)) (by kernel_rfl) ?_
 simp only [zz]
 exact ⟨hL _, ⟨0, ⟨Nat.zero_le _, rfl⟩, rfl⟩, fun _ h => h.symm, fun _ _ => trivial⟩
theorem e57_of {n : Int} {e : LP} (h : (0 ≤ n ∧ n ≤ 7) ∧ e.length < 1000000000000000) : GCall Try.prog gl 57 true [.int .i64 n, .sl P2 e] [] [.sl P2 (L62 n.toNat (jr e))] [] := by
 have := call57 n.toNat (by omega) e h.2
 rwa [Int.toNat_of_nonneg h.1.1] at this
def e57 : Entry Try.prog gl := entry2 57 ⟨Try.f57, by kernel_rfl, by kernel_rfl, by kernel_rfl⟩ I64 SP (fun (n : Int) e => (0 ≤ n ∧ n ≤ 7) ∧ (e : LP).length < 1000000000000000) true (fun (n : Int) e => [.sl P2 (L62 n.toNat (jr e))]) (fun _ _ => []) (fun (n : Int) e h => e57_of h)
theorem jr_eg {n : Nat} {e : LP} (he : grOk n e) (x y : Nat) : jr e x y = eg e x y := by
 have hg := gr_eg he
 unfold jr
 rcases Nat.lt_trichotomy x y with h | h | h
 · rw [decide_eq_false (show ¬ x = y by omega), Bool.not_false, Bool.true_and, Bool.eq_iff_iff, jn_eg he h]
 · subst h
   rw [decide_eq_true rfl, hg.ir]; try rfl
 · have e1 : jnB e (x : Int) (y : Int) = jnB e (y : Int) (x : Int) := by
     unfold jnB minI maxI
     rw [if_pos (by omega), if_neg (by omega), if_neg (by omega), if_pos (by omega)]
   rw [decide_eq_false (show ¬ x = y by omega), Bool.not_false, Bool.true_and, e1, Bool.eq_iff_iff, jn_eg he h, hg.sy]
def frB (e : LP) (x y : PA) : Bool := if x = y then true else if x.1 = y.1 then !jnB e x.2 y.2 else decide (x.2 = y.2) && !jnB e x.1 y.1
theorem call43 (e : LP) (x y : PA) (he : e.length < 1000000000000000) : GCall Try.prog gl 43 true [.sl P2 e, pa x.1 x.2, pa y.1 y.2] [] [.bool (frB e x y)] [] := by
 refine gcall_of (X := (X [e58])) ((X_ok _)) (f := 43) (fn := Try.f43) (c := bodyOf Try.f43) (by kernel_rfl) (by kernel_rfl) (view := false) (rvs := [.tmp 6]) (by kernel_rfl) (H := fun _ => none) 150 (by kernel_rfl) ?_
 refine of_eq (q := (fun (g : Prop) => (fun (f : Bool) => (fun (c : Prop) => (fun (b : Prop) => (fun (a : Prop) => (fun (d : Prop) => a ∧ a ∧ a ∧ a ∧ a ∧ a ∧ (g → a ∧ a ∧ (true = f ∧ a) ∧ a) ∧ (¬g → c ∧ a ∧ c ∧ a ∧ a ∧ (x.fst = y.fst → a ∧ b ∧ a ∧ b ∧ a ∧ d ∧ a ∧ a ∧ a ∧ ((!jnB e x.snd y.snd) = f ∧ a) ∧ a) ∧ (¬x.fst = y.fst → b ∧ a ∧ b ∧ a ∧ a ∧ a ∧ (x.snd = y.snd → a ∧ c ∧ a ∧ c ∧ a ∧ d ∧ a ∧ a ∧ a ∧ a ∧ ((!jnB e x.fst y.fst) = f ∧ a) ∧ a) ∧ (¬x.snd = y.snd → a ∧ a ∧ a ∧ (false = f ∧ a) ∧ a)))) (List.length e + 1 ≤ 1000000000000000 ∧ a)) (True)) (idxPre (1 : Int) (2 : Nat))) (idxPre (0 : Int) (2 : Nat))) (frB e x y)) ((x.fst, x.snd) = (y.fst, y.snd))) (by kernel_rfl) ?_
 simp only [zz]
 have he1 : e.length + 1 ≤ 1000000000000000 := by omega
 unfold frB
 refine ⟨fun h => ?_, fun h => ?_⟩
 · have h : x = y := h
   rw [if_pos h]
 · have h : ¬ x = y := h
   rw [if_neg h]
   refine ⟨i02, i02, fun h2 => ?_, fun h2 => ?_⟩
   · rw [if_pos h2]; exact ⟨i12, i12, he, rfl⟩
   · rw [if_neg h2]
     refine ⟨i12, i12, fun h3 => ⟨i02, i02, he, ?_⟩, fun h3 => ?_⟩
     · rw [decide_eq_true h3]; try rfl
     · rw [decide_eq_false h3]; try rfl
def e43 : Entry Try.prog gl := entry3 43 ⟨Try.f43, by kernel_rfl, by kernel_rfl, by kernel_rfl⟩ SP P2 P2 (fun e _ _ => (e : LP).length < 1000000000000000) true (fun e x y => [.bool (frB e x y)]) (fun _ _ _ => []) (fun e x y h => call43 e x y h)
end Go.Am.Or

/- Orders: the reference: the class of an arrow. -/
namespace Go.Am.Or
open Go Go.Am Go.Proofs
abbrev MI := List (PA × Int)
theorem iGet_if {e : PA × Int} {M : MI} {y : PA} : mGet P2 (e :: M) y = if y = e.1 then some e.2 else mGet P2 M y := by
 rw [mGet]
 cases h : P2.deq y e.1 with
 | isTrue h1 => exact (if_pos h1).symm
 | isFalse h1 => exact (if_neg h1).symm
theorem iPut_if {e : PA × Int} {M : MI} {x : PA} {z : Int} : mPut P2 (e :: M) x z = if x = e.1 then (x, z) :: M else e :: mPut P2 M x z := by
 rw [mPut]
 cases h : P2.deq x e.1 with
 | isTrue h1 => exact (if_pos h1).symm
 | isFalse h1 => exact (if_neg h1).symm
theorem iGet_put {M : MI} {x y : PA} {z : Int} : mGet P2 (mPut P2 M x z) y = if y = x then some z else mGet P2 M y := by
 induction M with
 | nil => rw [mPut, iGet_if]
 | cons p M ih =>
   rw [iPut_if]
   split
   · rename_i h
     rw [iGet_if, iGet_if, ← h]
     split
     · rfl
     · rfl
   · rename_i h
     rw [iGet_if, iGet_if, ih]
     by_cases e : y = x
     · rw [if_pos e, if_pos e, if_neg (by rw [e]; exact h)]
     · rw [if_neg e, if_neg e]
def stK (e : LP) (i : Nat) (s : MI × LP) (y : PA) : MI × LP := if (mGet P2 s.1 y).isSome = false ∧ frB e (s.2.getD i (0, 0)) y = true then (mPut P2 s.1 y ((mGet P2 s.1 (s.2.getD i (0, 0))).getD 0 + 1), s.2 ++ [y]) else s
/-- What is known of the search. -/
structure okK (all : LP) (s : MI × LP) : Prop where
 nd : s.2.Nodup
 inn : ∀ y, y ∈ s.2 → y ∈ all
 dom : ∀ y, (mGet P2 s.1 y).isSome = true ↔ y ∈ s.2
 val : ∀ y v, mGet P2 s.1 y = some v → 0 ≤ v ∧ v < s.2.length
theorem stK_ok {e : LP} {i : Nat} {all : LP} {s : MI × LP} {y : PA} (h : okK all s) (hi : i < s.2.length) (hy : y ∈ all) : okK all (stK e i s y) ∧ s.2.length ≤ (stK e i s y).2.length := by
 unfold stK
 split
 · rename_i hc
   have hn : ¬ y ∈ s.2 := fun h1 => by rw [(h.dom y).mpr h1] at hc; cases hc.1
   obtain ⟨v, hv⟩ := Option.isSome_iff_exists.mp ((h.dom _).mpr (mem_getD (d := (0, 0)) hi))
   have hb := h.val _ _ hv
   refine ⟨⟨?_, fun z hz => ?_, fun z => ?_, fun z w hw => ?_⟩, by simp⟩
   · show (s.2 ++ [y]).Nodup
     rw [List.nodup_append]
     exact ⟨h.nd, by simp, fun a ha b hb e => hn (by rw [List.mem_singleton] at hb; rw [← hb, ← e]; exact ha)⟩
   · rcases List.mem_append.mp hz with h1 | h1
     · exact h.inn z h1
     · rw [List.mem_singleton.mp h1]; exact hy
   · show (mGet P2 (mPut P2 s.1 y _) z).isSome = true ↔ z ∈ s.2 ++ [y]
     rw [iGet_put, List.mem_append, List.mem_singleton, ← h.dom z]
     by_cases ez : z = y
     · rw [if_pos ez]; simp [ez]
     · rw [if_neg ez]; simp [ez]
   · show 0 ≤ w ∧ w < ((s.2 ++ [y]).length : Int)
     have hw : mGet P2 (mPut P2 s.1 y ((mGet P2 s.1 (s.2.getD i (0, 0))).getD 0 + 1)) z = some w := hw
     rw [iGet_put, hv] at hw
     rw [List.length_append, List.length_singleton]
     split at hw
     · injection hw with hw; rw [← hw]; simp only [Option.getD_some]; omega
     · have := h.val z w hw; omega
 · exact ⟨h, Nat.le_refl _⟩
theorem fdK_ok {e : LP} {i : Nat} {all : LP} : ∀ {l : LP} {s : MI × LP}, okK all s → i < s.2.length → (∀ y, y ∈ l → y ∈ all) → okK all (l.foldl (stK e i) s) ∧ s.2.length ≤ (l.foldl (stK e i) s).2.length
 | [], _, h, _, _ => ⟨h, Nat.le_refl _⟩
 | y :: l, s, h, hi, hl => by
   obtain ⟨h1, h2⟩ := stK_ok (e := e) h hi (hl y (by simp))
   obtain ⟨h3, h4⟩ := fdK_ok (e := e) (l := l) h1 (Nat.lt_of_lt_of_le hi h2) fun z hz => hl z (by simp [hz])
   exact ⟨h3, Nat.le_trans h2 h4⟩
/-- The state behind k rounds. -/
def rsK (e all : LP) (s : MI × LP) : Nat → MI × LP
 | 0 => s
 | k + 1 => if k < (rsK e all s k).2.length then all.foldl (stK e k) (rsK e all s k) else rsK e all s k
theorem rsK_ok {e all : LP} {s : MI × LP} (h : okK all s) : ∀ k, okK all (rsK e all s k)
 | 0 => h
 | k + 1 => by
   have ih := rsK_ok (e := e) h k
   rw [rsK]
   split
   · rename_i hk; exact (fdK_ok ih hk fun y hy => hy).1
   · exact ih
theorem rsK_len {e all : LP} {s : MI × LP} (h : okK all s) (k : Nat) : (rsK e all s k).2.length ≤ (rsK e all s (k + 1)).2.length := by
 rw [rsK]
 split
 · rename_i hk; exact (fdK_ok (rsK_ok h k) hk fun y hy => hy).2
 · exact Nat.le_refl _
theorem rsK_stop {e all : LP} {s : MI × LP} {k : Nat} (h : (rsK e all s k).2.length ≤ k) : ∀ j, rsK e all s (k + j) = rsK e all s k
 | 0 => rfl
 | j + 1 => by
   have := rsK_stop h j
   rw [← Nat.add_assoc, rsK, this, if_neg (by omega)]
theorem nodup_le {l m : LP} (h1 : l.Nodup) (h2 : ∀ y, y ∈ l → y ∈ m) : l.length ≤ m.length := by
 induction l generalizing m with
 | nil => exact Nat.zero_le _
 | cons y l ih =>
   rw [List.nodup_cons] at h1
   have hy := h2 y (by simp)
   have := ih (m := m.erase y) h1.2 fun z hz => (List.mem_erase_of_ne (fun e : z = y => h1.1 (by rw [← e]; exact hz))).mpr (h2 z (by simp [hz]))
   rw [List.length_erase_of_mem hy] at this
   have := List.length_pos_of_mem hy
   rw [List.length_cons]; omega
def sK0 (x : PA) : MI × LP := ([(x, 0)], [x])
theorem sK0_ok {all : LP} {x : PA} (h : x ∈ all) : okK all (sK0 x) := by
 refine ⟨by simp [sK0], fun y hy => ?_, fun y => ?_, fun y v hv => ?_⟩
 · rw [List.mem_singleton.mp hy]; exact h
 · have : (mGet P2 [(x, (0 : Int))] y).isSome = true ↔ y ∈ [x] := by
     rw [iGet_if, List.mem_singleton]
     by_cases e : y = x
     · rw [if_pos e]; simp [e]
     · rw [if_neg e]; simp [mGet, e]
   exact this
 · have hv : mGet P2 [(x, (0 : Int))] y = some v := hv
   rw [iGet_if] at hv
   split at hv
   · injection hv with hv
     show 0 ≤ v ∧ v < 1
     omega
   · cases hv
def clK (e all : LP) (x : PA) : MI × LP := rsK e all (sK0 x) all.length
noncomputable def L44_0 : Code := lp (bodyOf Try.f44) 0
noncomputable def L44_2 : Code := lp (bodyOf Try.f44) 2
noncomputable def L44_4 : Code := lp (bodyOf Try.f44) 4
noncomputable abbrev X44 : Cy := X [e57, e43]
def oM (M : MI) : Ob := .mo P2 I64 M
def sa44 (e all : LP) (s : MI × LP) (i : Nat) : St := ⟨(.dead :: .sl P2 e :: dd 6 ++ .sl P2 all :: .mp 0 :: .own 1 0 :: .int .i64 i :: dd 99), [oM (rsK e all s i).1, .sc 0 52 P2 (rsK e all s i).2]⟩
def xa44 (e all : LP) (s : MI × LP) : List (List Nat × Ex) := [([8, 9], ⟨0, Unit, fun _ => True, fun _ => ⟨(dd 8 ++ .sl P2 all :: .mp 0 :: dd 101), [oM (rsK e all s all.length).1]⟩⟩)]
def ha44 (e all : LP) (s : MI × LP) : Hint := ⟨chk 0 [1, 8, 9, 10, 11] (fun i => i ≤ (rsK e all s i).2.length) (sa44 e all s), (xa44 e all s).map (·.2)⟩
def sb44 (e all : LP) (i : Nat) (s : MI × LP) (k : Nat) : St := ⟨(.dead :: .sl P2 e :: dd 6 ++ .sl P2 all :: .mp 0 :: .own 1 0 :: .int .i64 i :: .int .i64 k :: dd 98), [oM ((all.take k).foldl (stK e i) s).1, .sc 0 52 P2 ((all.take k).foldl (stK e i) s).2]⟩
def xb44 (e all : LP) (i : Nat) (s : MI × LP) : List (List Nat × Ex) := [([1, 8, 9, 10, 11], ⟨2, Unit, fun _ => True, fun _ => ⟨(.dead :: .sl P2 e :: dd 6 ++ .sl P2 all :: .mp 0 :: .own 1 0 :: .int .i64 i :: dd 99), [oM (all.foldl (stK e i) s).1, .sc 0 52 P2 (all.foldl (stK e i) s).2]⟩⟩)]
def hb44 (e all : LP) (i : Nat) (s : MI × LP) : Hint := ⟨chk 0 [1, 8, 9, 10, 11, 12] (fun k => k ≤ all.length) (sb44 e all i s), (xb44 e all i s).map (·.2)⟩
theorem loop44b (e all : LP) (he : e.length < 1000000000000000) (hal : all.length ≤ 49) (i : Nat) (s : MI × LP) (ho : okK all s) (hi : i < s.2.length) (R : Exit → St → Prop) : LoopOK X44 L44_2 (hb44 e all i s) R := by
 refine loop_ok (X_ok _) (H := fun _ _ => none) [1, 8, 9, 10, 11, 12] (fun k => k ≤ all.length) (sb44 e all i s) (fun k => all.length - k) (xb44 e all i s) 250 fun (k : Nat) hk => ?_
 refine of_eq (q := (fun (m : Int) => (fun (l : Int) => (fun (j : Nat) => (fun (h : Int) => (fun (g : Prop) => (fun (f : Prop) => (fun (b : Int × Int) => (fun (a : MI × LP) => (fun (p : LP) => (fun (o : Bool) => (fun (d : Int × Int) => (fun (n : Int) => (fun (c : Prop) => f ∧ f ∧ f ∧ f ∧ ((k : Int) < (↑(List.length all) : Int) → f ∧ f ∧ f ∧ g ∧ f ∧ f ∧ f ∧ f ∧ f ∧ f ∧ f ∧ f ∧ f ∧ f ∧ (o = true → f ∧ f ∧ f ∧ idxPre h (List.length p) ∧ f ∧ f ∧ f ∧ g ∧ f ∧ List.length e + 1 ≤ 1000000000000000 ∧ f ∧ (frB e d b = true → f ∧ f ∧ f ∧ g ∧ f ∧ f ∧ f ∧ f ∧ idxPre h (List.length p) ∧ f ∧ f ∧ inR .i64 n ∧ f ∧ f ∧ f ∧ f ∧ g ∧ f ∧ f ∧ sumPre (List.length p) [b].length (nat_lit 16) ∧ f ∧ f ∧ inR .i64 l ∧ f ∧ ∃ (y : Nat), (y ≤ j ∧ j - y < j - k) ∧ (e = e ∧ all = all ∧ f ∧ f ∧ h = h ∧ l = (y : Int) ∧ f) ∧ mPut P2 a.fst b n = (List.foldl (stK e i) s (List.take y all)).fst ∧ p ++ [b] = (List.foldl (stK e i) s (List.take y all)).snd ∧ f) ∧ (frB e d b = false → c)) ∧ (o = false → f ∧ c)) ∧ (¬(k : Int) < (↑(List.length all) : Int) → ∃ (y : Unit), f ∧ (e = e ∧ all = all ∧ f ∧ f ∧ h = h ∧ f) ∧ a.fst = (List.foldl (stK e i) s all).fst ∧ p = (List.foldl (stK e i) s all).snd ∧ f)) (f ∧ inR .i64 l ∧ f ∧ ∃ (y : Nat), (y ≤ j ∧ j - y < j - k) ∧ (e = e ∧ all = all ∧ f ∧ f ∧ h = h ∧ l = (y : Int) ∧ f) ∧ a.fst = (List.foldl (stK e i) s (List.take y all)).fst ∧ p = (List.foldl (stK e i) s (List.take y all)).snd ∧ f)) ((mGet P2 a.fst d).getD m + 1)) (((List.getD p i (m, m)).fst, (List.getD p i (m, m)).snd))) (!(mGet P2 a.fst b).isSome)) (a.snd)) (List.foldl (stK e i) s (List.take k all))) (((List.getD all k (m, m)).fst, (List.getD all k (m, m)).snd))) (True)) (idxPre (k : Int) (List.length all))) ((i : Int))) (List.length all)) ((k : Int) + 1)) ((0 : Int))) (by kernel_rfl) ?_
 simp only [zz]
 have h0 := fdK_ok (e := e) (i := i) (l := all.take k) ho hi fun y hy => List.mem_of_mem_take hy
 refine ⟨fun h1 => ?_, fun h1 => by rw [List.take_of_length_le (by omega)]; exact ⟨rfl, rfl⟩⟩
 have h1 : k < all.length := by omega
 have hst : (all.take (k + 1)).foldl (stK e i) s = stK e i ((all.take k).foldl (stK e i) s) (all.getD k (0, 0)) := by
   rw [take_getD (d := (0, 0)) h1, List.foldl_append]; try rfl
 generalize hs' : (all.take k).foldl (stK e i) s = s' at *
 obtain ⟨o1, o2⟩ := h0
 have hlen := nodup_le o1.nd o1.inn
 have hi2 : i < s'.2.length := by omega
 have hval : 0 ≤ (mGet P2 s'.1 (s'.2.getD i (0, 0))).getD 0 ∧ (mGet P2 s'.1 (s'.2.getD i (0, 0))).getD 0 < 100 := by
   obtain ⟨v, hv⟩ := Option.isSome_iff_exists.mp ((o1.dom _).mpr (mem_getD (d := (0, 0)) hi2))
   have := o1.val _ _ hv
   rw [hv, Option.getD_some]
   omega
 have ik := idx_nat h1
 have ii := idx_nat hi2
 have sk : ¬ ((mGet P2 s'.1 (all.getD k (0, 0))).isSome = false ∧ frB e (s'.2.getD i (0, 0)) (all.getD k (0, 0)) = true) → inR .i64 ((k : Int) + 1) ∧ ∃ y : Nat, (y ≤ all.length ∧ all.length - y < all.length - k) ∧ (k : Int) + 1 = y ∧ s'.1 = ((all.take y).foldl (stK e i) s).1 ∧ s'.2 = ((all.take y).foldl (stK e i) s).2 := fun hc =>
   ⟨in1 (by omega), k + 1, ⟨by omega, by omega⟩, by omega, by rw [hst, stK, if_neg hc], by rw [hst, stK, if_neg hc]⟩
 refine ⟨ik, fun h2 => ⟨ii, ik, by omega, fun h3 => ?_, fun h3 => sk fun hc => ?_⟩, fun h2 => sk fun hc => ?_⟩
 · have hc : (mGet P2 s'.1 (all.getD k (0, 0))).isSome = false ∧ frB e (s'.2.getD i (0, 0)) (all.getD k (0, 0)) = true := ⟨nt1 h2, h3⟩
   refine ⟨ik, ii, ?_, ik, by unfold sumPre; simp; omega, in1 (by omega), k + 1, ⟨by omega, by omega⟩, by omega, ?_⟩
   · have e3 : ∀ v : Int, 0 ≤ v ∧ v < 100 → inR .i64 (v + 1) := fun v hv => by simp only [inR]; omega
     exact e3 _ hval
   · rw [hst, stK, if_pos hc]; exact ⟨rfl, rfl⟩
 · have h3 : frB e (s'.2.getD i (0, 0)) (all.getD k (0, 0)) = false := h3
   rw [hc.2] at h3; cases h3
 · have h2 : (mGet P2 s'.1 (all.getD k (0, 0))).isSome = true := nt0 h2
   rw [hc.1] at h2; cases h2
theorem loop44a (e all : LP) (he : e.length < 1000000000000000) (hal : all.length ≤ 49) (s : MI × LP) (ho : okK all s) (R : Exit → St → Prop) : LoopOK X44 L44_0 (ha44 e all s) R := by
 refine loop_ok (X_ok _) (H := fun i _ => some (hb44 e all i (rsK e all s i))) [1, 8, 9, 10, 11] (fun i => i ≤ (rsK e all s i).2.length) (sa44 e all s) (fun i => all.length - i) (xa44 e all s) 250 fun (i : Nat) hi => ?_
 have hL := fun h R => loop44b e all he hal i (rsK e all s i) (rsK_ok ho i) h R
 refine of_eq (q := (fun (c : Prop) => (fun (b : Int) => (fun (a : MI × LP) => c ∧ c ∧ c ∧ c ∧ (b < (↑(List.length a.snd) : Int) → c ∧ LoopOK X44 L44_2 (hb44 e all i a) (bodyR (X [e57, e43]).m0 (xa44 e all s) R) ∧ (∃ (y : Nat), y ≤ List.length all ∧ (e = e ∧ all = all ∧ c ∧ c ∧ b = b ∧ (0 : Int) = (y : Int) ∧ c) ∧ a.fst = (List.foldl (stK e i) a (List.take y all)).fst ∧ a.snd = (List.foldl (stK e i) a (List.take y all)).snd ∧ c) ∧ (∀ (y : Unit), c → c ∧ inR .i64 (b + 1) ∧ c ∧ ∃ (y : Nat), (y ≤ List.length (rsK e all s y).snd ∧ List.length all - y < List.length all - i) ∧ (e = e ∧ all = all ∧ c ∧ c ∧ b + 1 = (y : Int) ∧ c) ∧ (List.foldl (stK e i) a all).fst = (rsK e all s y).fst ∧ (List.foldl (stK e i) a all).snd = (rsK e all s y).snd ∧ c) ∧ c) ∧ (¬b < (↑(List.length a.snd) : Int) → ∃ (y : Unit), c ∧ (all = all ∧ c ∧ c) ∧ a.fst = (rsK e all s (List.length all)).fst ∧ c)) (rsK e all s i)) ((i : Int))) (True)) (by kernel_rfl) ?_
 simp only [zz]
 have ho' := rsK_ok (e := e) ho i
 have hlen := nodup_le ho'.nd ho'.inn
 have h3 := rsK_len (e := e) ho i
 refine ⟨fun h1 => ?_, fun h1 => ?_⟩
 · have h1 : i < (rsK e all s i).2.length := by omega
   have hst : rsK e all s (i + 1) = all.foldl (stK e i) (rsK e all s i) := by rw [rsK, if_pos h1]
   exact ⟨hL h1 _, ⟨0, Nat.zero_le _, rfl, rfl, rfl⟩, fun _ _ => ⟨in1 (by omega), i + 1, ⟨by omega, by omega⟩, by omega, by rw [hst], by rw [hst]⟩⟩
 · have := rsK_stop (e := e) (all := all) (s := s) (k := i) (by omega) (all.length - i)
   rw [show i + (all.length - i) = all.length by omega] at this
   rw [this]
def inM (M : MI) (y : PA) : Bool := (mGet P2 M y).isSome
def vlM (M : MI) (y : PA) : Int := (mGet P2 M y).getD 0
def outF (M : MI) (l : LP) : LP := l.filter (inM M)
def farF (M : MI) (l : LP) : List Int := (outF M l).map (vlM M)
theorem outF_step {M : MI} {l : LP} {k : Nat} (h : k < l.length) : outF M (l.take (k + 1)) = if inM M (l.getD k (0, 0)) = true then outF M (l.take k) ++ [l.getD k (0, 0)] else outF M (l.take k) := by
 unfold outF
 rw [take_getD (d := (0, 0)) h, List.filter_append]
 cases hq : inM M (l.getD k (0, 0)) with
 | true => rw [if_pos rfl]; simp only [List.filter_cons, hq, List.filter_nil, if_true]
 | false => rw [if_neg (by decide)]; simp only [List.filter_cons, hq, List.filter_nil, Bool.false_eq_true, if_false, List.append_nil]
theorem outF_len (M : MI) (l : LP) : (outF M l).length ≤ l.length := List.length_filter_le _ _
def sz44 (all : LP) (M : MI) (k : Nat) : St := ⟨(dd 8 ++ .sl P2 all :: .mp 0 :: dd 5 ++ nl :: nl :: .int .i64 k :: dd 93), [oM M]⟩
def st44 (all : LP) (M : MI) (k : Nat) : St := ⟨(dd 8 ++ .sl P2 all :: .mp 0 :: dd 5 ++ .own 1 0 :: .own 2 0 :: .int .i64 k :: dd 93), [oM M, .sc 0 52 P2 (outF M (all.take k)), .sc 0 3 I64 (farF M (all.take k))]⟩
def fc44 (all : LP) (M : MI) : List Fam := [⟨Nat, fun k => k ≤ all.length ∧ outF M (all.take k) = [], sz44 all M, fun k => all.length - k, fun _ _ => none⟩, ⟨Nat, fun k => k ≤ all.length, st44 all M, fun k => all.length - k, fun _ _ => none⟩]
def xc44 (all : LP) (M : MI) : List (List Nat × Ex) := [([15, 16], ⟨4, Unit, fun _ => outF M all = [], fun _ => ⟨(dd 15 ++ nl :: nl :: dd 94), []⟩⟩), ([15, 16], ⟨4, Unit, fun _ => True, fun _ => ⟨(dd 15 ++ .own 0 0 :: .own 1 0 :: dd 94), [.sc 0 52 P2 (outF M all), .sc 0 3 I64 (farF M all)]⟩⟩)]
def hc44 (all : LP) (M : MI) : Hint := ⟨chks 0 [8, 9, 15, 16, 17] (fc44 all M), (xc44 all M).map (·.2)⟩
theorem loop44c (all : LP) (M : MI) (hal : all.length ≤ 49) (R : Exit → St → Prop) : LoopOK X44 L44_4 (hc44 all M) R := by
 refine loop_fams (X_ok _) [8, 9, 15, 16, 17] (fc44 all M) (xc44 all M) 250 ⟨fun (k : Nat) hk => ?_, fun (k : Nat) hk => ?_, trivial⟩
 · refine of_eq (q := (fun (g : Int) => (fun (f : Int) => (fun (d : Int) => (fun (c : Prop) => (fun (b : Nat) => (fun (a : Int × Int) => (fun (e : Option Int) => c ∧ c ∧ c ∧ c ∧ (f < (↑(List.length all) : Int) → c ∧ c ∧ c ∧ idxPre f (List.length all) ∧ c ∧ c ∧ c ∧ c ∧ c ∧ c ∧ c ∧ c ∧ (e.isSome = true → c ∧ c ∧ c ∧ idxPre f (List.length all) ∧ c ∧ c ∧ sumPre (0 : Nat) [a].length (nat_lit 16) ∧ c ∧ c ∧ c ∧ c ∧ sumPre (0 : Nat) [e.getD g].length (nat_lit 8) ∧ c ∧ c ∧ inR .i64 d ∧ c ∧ ((∃ (y : Nat), ((y ≤ b ∧ outF M (List.take y all) = []) ∧ b - y < b - k) ∧ (all = all ∧ c ∧ False ∧ False ∧ d = (y : Int) ∧ c) ∧ M = M ∧ c) ∨ ∃ (y : Nat), (y ≤ b ∧ b - y < b - k) ∧ (all = all ∧ c ∧ c ∧ c ∧ d = (y : Int) ∧ c) ∧ M = M ∧ [a] = outF M (List.take y all) ∧ [e.getD g] = farF M (List.take y all) ∧ c)) ∧ (e.isSome = false → c ∧ inR .i64 d ∧ c ∧ ((∃ (y : Nat), ((y ≤ b ∧ outF M (List.take y all) = []) ∧ b - y < b - k) ∧ (all = all ∧ c ∧ c ∧ c ∧ d = (y : Int) ∧ c) ∧ M = M ∧ c) ∨ ∃ (y : Nat), (y ≤ b ∧ b - y < b - k) ∧ (all = all ∧ c ∧ False ∧ False ∧ d = (y : Int) ∧ c) ∧ M = M ∧ False))) ∧ (¬f < (↑(List.length all) : Int) → (∃ (y : Unit), outF M all = [] ∧ (c ∧ c ∧ c) ∧ c) ∨ ∃ (y : Unit), c ∧ (False ∧ False ∧ c) ∧ False)) (mGet P2 M a)) (((List.getD all k (g, g)).fst, (List.getD all k (g, g)).snd))) (List.length all)) (True)) (f + 1)) ((k : Int))) ((0 : Int))) (by kernel_rfl) ?_
   simp only [zz]
   obtain ⟨k1, k2⟩ := hk
   refine ⟨fun h1 => ?_, fun h1 => by rwa [List.take_of_length_le (by omega)] at k2⟩
   have h1 : k < all.length := by omega
   have hst := outF_step (M := M) h1
   have ik := idx_nat h1
   refine ⟨ik, fun (h2 : inM M (all.getD k (0, 0)) = true) => ⟨ik, by simp [sumPre], by simp [sumPre], in1 (by omega), k + 1, ⟨by omega, by omega⟩, by omega, ?_, ?_⟩, fun (h2 : inM M (all.getD k (0, 0)) = false) => ⟨in1 (by omega), k + 1, ⟨⟨by omega, by rw [hst, if_neg (by rw [h2]; decide), k2]⟩, by omega⟩, by omega⟩⟩
   · rw [hst, if_pos h2, k2]; try rfl
   · unfold farF
     rw [hst, if_pos h2, k2]; try rfl
 · refine of_eq (q := (fun (j : Int) => (fun (i : Int) => (fun (g : LP) => (fun (f : List Int) => (fun (e : Int) => (fun (d : Nat) => (fun (c : Prop) => (fun (b : Prop) => (fun (a : Int × Int) => (fun (h : Option Int) => c ∧ c ∧ c ∧ c ∧ (i < (↑(List.length all) : Int) → c ∧ c ∧ c ∧ idxPre i (List.length all) ∧ c ∧ c ∧ c ∧ c ∧ c ∧ c ∧ c ∧ c ∧ (h.isSome = true → c ∧ c ∧ c ∧ idxPre i (List.length all) ∧ c ∧ c ∧ sumPre (List.length g) [a].length (nat_lit 16) ∧ c ∧ c ∧ c ∧ c ∧ sumPre f.length [h.getD j].length (nat_lit 8) ∧ c ∧ c ∧ inR .i64 e ∧ c ∧ (b ∨ ∃ (y : Nat), (y ≤ d ∧ d - y < d - k) ∧ (all = all ∧ c ∧ c ∧ c ∧ e = (y : Int) ∧ c) ∧ M = M ∧ g ++ [a] = outF M (List.take y all) ∧ f ++ [h.getD j] = farF M (List.take y all) ∧ c)) ∧ (h.isSome = false → c ∧ inR .i64 e ∧ c ∧ (b ∨ ∃ (y : Nat), (y ≤ d ∧ d - y < d - k) ∧ (all = all ∧ c ∧ c ∧ c ∧ e = (y : Int) ∧ c) ∧ M = M ∧ g = outF M (List.take y all) ∧ f = farF M (List.take y all) ∧ c))) ∧ (¬i < (↑(List.length all) : Int) → (∃ (y : Unit), outF M all = [] ∧ (False ∧ False ∧ c) ∧ c) ∨ ∃ (y : Unit), c ∧ (c ∧ c ∧ c) ∧ g = outF M all ∧ f = farF M all ∧ c)) (mGet P2 M a)) (((List.getD all k (j, j)).fst, (List.getD all k (j, j)).snd))) (∃ (y : Nat), ((y ≤ d ∧ outF M (List.take y all) = []) ∧ d - y < d - k) ∧ (all = all ∧ c ∧ False ∧ False ∧ e = (y : Int) ∧ c) ∧ M = M ∧ c)) (True)) (List.length all)) (i + 1)) (farF M (List.take k all))) (outF M (List.take k all))) ((k : Int))) ((0 : Int))) (by kernel_rfl) ?_
   simp only [zz]
   have k1 : k ≤ all.length := hk
   refine ⟨fun h1 => ?_, fun h1 => by rw [List.take_of_length_le (by omega)]; exact ⟨rfl, rfl⟩⟩
   have h1 : k < all.length := by omega
   have hst := outF_step (M := M) h1
   have ik := idx_nat h1
   have l1 := outF_len M (all.take k)
   rw [List.length_take] at l1
   have l2 : (farF M (all.take k)).length = (outF M (all.take k)).length := by unfold farF; rw [List.length_map]
   refine ⟨ik, fun (h2 : inM M (all.getD k (0, 0)) = true) => ⟨ik, by unfold sumPre; simp; omega, by unfold sumPre; rw [l2]; simp; omega, in1 (by omega), k + 1, ⟨by omega, by omega⟩, by omega, ?_, ?_⟩, fun (h2 : inM M (all.getD k (0, 0)) = false) => ⟨in1 (by omega), k + 1, ⟨by omega, by omega⟩, by omega, by rw [hst, if_neg (by rw [h2]; decide)], by unfold farF; rw [hst, if_neg (by rw [h2]; decide)]⟩⟩
   · rw [hst, if_pos h2] <;> rfl
   · unfold farF
     rw [hst, if_pos h2, List.map_append] <;> rfl
/-- The class of an arrow, and the steps. -/
def rclL (n : Nat) (e : LP) (x : PA) : LP := outF (clK e (L62 n (jr e)) x).1 (L62 n (jr e))
def rclF (n : Nat) (e : LP) (x : PA) : List Int := farF (clK e (L62 n (jr e)) x).1 (L62 n (jr e))
theorem call44 (n : Nat) (hn : n ≤ 7) (e : LP) (x : PA) (he : e.length < 1000000000000000) (hx : x ∈ L62 n (jr e)) : GCall Try.prog gl 44 true [.int .i64 n, .sl P2 e, pa x.1 x.2] [] [.sl P2 (rclL n e x), .sl I64 (rclF n e x)] [] := by
 refine gcall_of (X := X44) ((X_ok _)) (f := 44) (fn := Try.f44) (c := bodyOf Try.f44) (by kernel_rfl) (by kernel_rfl) (view := true) (rvs := [.tmp 6, .tmp 7]) (by kernel_rfl) (H := (fun id => if id = 0 then some (ha44 e (L62 n (jr e)) (sK0 x)) else some (hc44 (L62 n (jr e)) (clK e (L62 n (jr e)) x).1))) 150 (by kernel_rfl) ?_
 have hlen : (L62 n (jr e)).length ≤ 49 := prK_len _ 7 49
 have hL := fun R => loop44a e (L62 n (jr e)) he hlen (sK0 x) (sK0_ok hx) R
 have hM := fun R => loop44c (L62 n (jr e)) (clK e (L62 n (jr e)) x).1 hlen R
 refine of_eq (q := (fun (h : Int) => (fun (g : List ResultVar) => (fun (d : List AV) => (fun (b : Prop) => (fun (a : LP) => (fun (c : MI) => (fun (f : Prop) => b ∧ b ∧ b ∧ b ∧ b ∧ (((h ≤ (n : Int) ∧ (n : Int) ≤ 7) ∧ List.length e < 1000000000000000) ∧ b) ∧ b ∧ b ∧ b ∧ b ∧ b ∧ b ∧ b ∧ b ∧ b ∧ b ∧ LoopOK X44 L44_0 (ha44 e a (sK0 x)) (RetR X44 true true g d []) ∧ (∃ (y : Nat), y ≤ List.length (rsK e a (sK0 x) y).snd ∧ (e = e ∧ a = a ∧ b ∧ b ∧ h = (y : Int) ∧ b) ∧ mPut (Ty.int .i64).a2 [] (x.fst, x.snd) h = (rsK e a (sK0 x) y).fst ∧ [(x.fst, x.snd)] = (rsK e a (sK0 x) y).snd ∧ b) ∧ (∀ (y : Unit), b → b ∧ b ∧ b ∧ LoopOK X44 L44_4 (hc44 a c) (RetR X44 true true g d []) ∧ ((∃ (y : Nat), (y ≤ List.length a ∧ outF c (List.take y a) = []) ∧ (a = a ∧ b ∧ b ∧ b ∧ h = (y : Int) ∧ b) ∧ f ∧ b) ∨ ∃ (y : Nat), y ≤ List.length a ∧ (a = a ∧ b ∧ False ∧ False ∧ h = (y : Int) ∧ b) ∧ f ∧ False) ∧ (∀ (y : Unit), outF c a = [] → b ∧ b ∧ b ∧ b ∧ b ∧ (([] : List (Int × Int)) = rclL n e x ∧ ([] : List Int) = rclF n e x ∧ b) ∧ b) ∧ (∀ (y : Unit), b → b ∧ b ∧ b ∧ b ∧ b ∧ (outF c a = rclL n e x ∧ farF c a = rclF n e x ∧ b) ∧ b) ∧ b) ∧ b) ((rsK e a (sK0 x) (List.length a)).fst = c)) ((clK e a x).fst)) (L62 n (jr e))) (True)) ([AV.sl P2 (rclL n e x), AV.sl I64 (rclF n e x)])) ([ResultVar.tmp (6 : Tmp), ResultVar.tmp (7 : Tmp)])) ((0 : Int))) (by kernel_rfl) ?_
 simp only [zz]
 exact ⟨⟨⟨by omega, by omega⟩, he⟩, hL _, ⟨0, Nat.zero_le _, rfl, rfl, rfl⟩, fun _ _ => ⟨hM _, ⟨0, ⟨Nat.zero_le _, rfl⟩, rfl, rfl⟩, fun _ h => ⟨h.symm, by show [] = farF _ _; unfold farF; rw [h]; rfl⟩, fun _ _ => ⟨rfl, rfl⟩⟩⟩
end Go.Am.Or

/- Orders: the reference: a clash with the fewest arrows. -/
namespace Go.Am.Or
open Go Go.Am Go.Proofs
def e44 : Entry Try.prog gl := entry3 44 ⟨Try.f44, by kernel_rfl, by kernel_rfl, by kernel_rfl⟩ I64 SP P2 (fun (n : Int) e x => ((0 ≤ n ∧ n ≤ 7) ∧ (e : LP).length < 1000000000000000) ∧ (x : PA) ∈ L62 n.toNat (jr e)) true (fun (n : Int) e x => [.sl P2 (rclL n.toNat e x), .sl I64 (rclF n.toNat e x)]) (fun _ _ _ => []) (fun (n : Int) e x h => by
 have := call44 n.toNat (by omega) e x h.1.2 h.2
 rwa [Int.toNat_of_nonneg h.1.1.1] at this)
structure rclO (c : LP) (fr : List Int) : Prop where
 hl : fr.length = c.length
 hc : c.length ≤ 49
 hv : ∀ i, i < c.length → 0 ≤ fr.getD i 0 ∧ fr.getD i 0 < 100
theorem clK_ok {e all : LP} {x : PA} (h : x ∈ all) : okK all (clK e all x) := rsK_ok (sK0_ok h) _
theorem rcl_ok {n : Nat} {e : LP} {x : PA} (hx : x ∈ L62 n (jr e)) : rclO (rclL n e x) (rclF n e x) := by
 have hlen : (L62 n (jr e)).length ≤ 49 := prK_len _ 7 49
 have h := clK_ok (e := e) hx
 have hle := nodup_le h.nd h.inn
 have hol := outF_len (clK e (L62 n (jr e)) x).1 (L62 n (jr e))
 refine ⟨by unfold rclF rclL farF; rw [List.length_map], by unfold rclL; omega, fun i hi => ?_⟩
 unfold rclL at hi
 unfold rclF farF
 rw [getD_lt (by rw [List.length_map]; exact hi), List.getElem_map]
 have hm : (outF (clK e (L62 n (jr e)) x).1 (L62 n (jr e)))[i] ∈ outF (clK e (L62 n (jr e)) x).1 (L62 n (jr e)) := List.getElem_mem hi
 have := (List.mem_filter.mp hm).2
 unfold inM at this
 obtain ⟨v, hv⟩ := Option.isSome_iff_exists.mp this
 have hb := h.val _ _ hv
 unfold vlM
 rw [hv, Option.getD_some]
 omega
def rckI (c : LP) (fr : List Int) (y : PA) (b : Int) : Nat → Int
 | 0 => b
 | i + 1 => if c.getD i (0, 0) = y ∧ (rckI c fr y b i = 0 ∨ fr.getD i 0 + 1 < rckI c fr y b i) then fr.getD i 0 + 1 else rckI c fr y b i
def rckK (n : Nat) (e : LP) (L : LP) : Nat → Int
 | 0 => 0
 | k + 1 => rckI (rclL n e (L.getD k (0, 0))) (rclF n e (L.getD k (0, 0))) (tn (L.getD k (0, 0))) (rckK n e L k) (rclL n e (L.getD k (0, 0))).length
def rckN (n : Nat) (e : LP) : Int := rckK n e (L62 n (jr e)) (L62 n (jr e)).length
theorem jn_all {n : Nat} {e : LP} (he : grOk n e) (x y : Nat) : jnB e x y = eg e x y := by
 by_cases h : x = y
 · subst h
   rw [(gr_eg he).ir]
   unfold jnB hasB
   refine decide_eq_false fun hm => ?_
   have := he.at hm
   simp only [minI, maxI] at this
   split at this <;> omega
 · have := jr_eg he x y
   unfold jr at this
   rwa [decide_eq_false h, Bool.not_false, Bool.true_and] at this
/-- One step. -/
def St1 (f : RF) (a b c d : Nat) : Prop := (c = a ∧ f a d = true ∧ f b d = false) ∨ (d = b ∧ f c b = true ∧ f a c = false)
theorem St1.rc {f : RF} {a b c d : Nat} (h : St1 f a b c d) : Rc f a b c d := by
 rcases h with ⟨rfl, h2, h3⟩ | ⟨rfl, h2, h3⟩
 · exact .hd .refl h2 h3
 · exact .tl .refl h2 h3
theorem fr_iff {n : Nat} {e : LP} (he : grOk n e) {a b c d : Nat} (h : eg e c d = true) : frB e ((a : Int), (b : Int)) ((c : Int), (d : Int)) = true ↔ St1 (eg e) a b c d := by
 have hg := gr_eg he
 unfold frB St1
 simp only
 by_cases h1 : a = c ∧ b = d
 · obtain ⟨rfl, rfl⟩ := h1
   rw [if_pos rfl]
   exact ⟨fun _ => .inl ⟨rfl, h, hg.ir b⟩, fun _ => rfl⟩
 · have hne : ¬ (((a : Int), (b : Int)) = ((c : Int), (d : Int))) := fun hq => h1 ⟨by have := congrArg Prod.fst hq; simp only at this; omega, by have := congrArg Prod.snd hq; simp only at this; omega⟩
   rw [if_neg hne, jn_all he, jn_all he]
   by_cases h2 : a = c
   · subst h2
     rw [if_pos rfl, Bool.not_eq_true']
     constructor
     · intro h3; exact .inl ⟨rfl, h, h3⟩
     · rintro (⟨_, _, h3⟩ | ⟨h3, _⟩)
       · exact h3
       · exact absurd ⟨rfl, h3.symm⟩ h1
   · rw [if_neg (by omega), Bool.and_eq_true, decide_eq_true_eq, Bool.not_eq_true']
     constructor
     · rintro ⟨h3, h4⟩
       have : d = b := by omega
       subst this
       exact .inr ⟨rfl, h, h4⟩
     · rintro (⟨h3, _⟩ | ⟨h3, _, h4⟩)
       · exact absurd h3.symm h2
       · exact ⟨by omega, h4⟩
theorem fdK_sub {e : LP} {i : Nat} {z : PA} : ∀ {l : LP} {s : MI × LP}, z ∈ s.2 → z ∈ (l.foldl (stK e i) s).2
 | [], _, h => h
 | y :: l, s, h => fdK_sub (l := l) (by
   unfold stK
   split
   · exact List.mem_append_left _ h
   · exact h)
theorem stK_get {e : LP} {i j : Nat} {s : MI × LP} {y : PA} (h : j < s.2.length) : (stK e i s y).2.getD j (0, 0) = s.2.getD j (0, 0) ∧ j < (stK e i s y).2.length := by
 unfold stK
 split
 · exact ⟨getD_app h, by simp; omega⟩
 · exact ⟨rfl, h⟩
theorem fdK_get {e : LP} {i j : Nat} : ∀ {l : LP} {s : MI × LP}, j < s.2.length → (l.foldl (stK e i) s).2.getD j (0, 0) = s.2.getD j (0, 0) ∧ j < (l.foldl (stK e i) s).2.length
 | [], _, h => ⟨rfl, h⟩
 | y :: l, s, h => by
   obtain ⟨h1, h2⟩ := stK_get (e := e) (i := i) (y := y) h
   obtain ⟨h3, h4⟩ := fdK_get (e := e) (i := i) (l := l) h2
   exact ⟨h3.trans h1, h4⟩
theorem fdK_all {e all : LP} {i : Nat} {z : PA} : ∀ {l : LP} {s : MI × LP}, okK all s → i < s.2.length → (∀ y, y ∈ l → y ∈ all) → z ∈ l → frB e (s.2.getD i (0, 0)) z = true → z ∈ (l.foldl (stK e i) s).2
 | [], _, _, _, _, h, _ => by cases h
 | y :: l, s, ho, hi, hl, h, hf => by
   show z ∈ (l.foldl (stK e i) (stK e i s y)).2
   obtain ⟨g1, g2⟩ := stK_get (e := e) (i := i) (y := y) hi
   rcases List.mem_cons.mp h with rfl | h
   · refine fdK_sub ?_
     unfold stK
     split
     · exact List.mem_append_right _ (by simp)
     · rename_i hc
       refine (ho.dom z).mp ?_
       cases hq : (mGet P2 s.1 z).isSome with
       | true => rfl
       | false => exact absurd ⟨hq, hf⟩ hc
   · exact fdK_all (stK_ok ho hi (hl y (by simp))).1 g2 (fun w hw => hl w (by simp [hw])) h (by rw [g1]; exact hf)
theorem rsK_get {e all : LP} {s : MI × LP} {k i : Nat} (h : i < (rsK e all s k).2.length) : ∀ j, (rsK e all s (k + j)).2.getD i (0, 0) = (rsK e all s k).2.getD i (0, 0) ∧ i < (rsK e all s (k + j)).2.length
 | 0 => ⟨rfl, h⟩
 | j + 1 => by
   obtain ⟨h1, h2⟩ := rsK_get h j
   rw [← Nat.add_assoc, rsK]
   split
   · obtain ⟨h3, h4⟩ := fdK_get (e := e) (i := k + j) (l := all) h2
     exact ⟨h3.trans h1, h4⟩
   · exact ⟨h1, h2⟩
theorem rsK_mono {e all : LP} {s : MI × LP} {k : Nat} {y : PA} (h : y ∈ (rsK e all s k).2) : ∀ j, y ∈ (rsK e all s (k + j)).2
 | 0 => h
 | j + 1 => by
   have ih := rsK_mono h j
   rw [← Nat.add_assoc, rsK]
   split
   · exact fdK_sub ih
   · exact ih
theorem rsK_closed {e all : LP} {s : MI × LP} (ho : okK all s) {y z : PA} (hy : y ∈ (rsK e all s all.length).2) (hz : z ∈ all) (hf : frB e y z = true) : z ∈ (rsK e all s all.length).2 := by
 obtain ⟨k, hk, ey⟩ := List.getElem_of_mem hy
 have hok := rsK_ok (e := e) ho all.length
 have hl := nodup_le hok.nd hok.inn
 have hk2 : k < (rsK e all s k).2.length := by
   refine Classical.byContradiction fun h => ?_
   have := rsK_stop (e := e) (all := all) (s := s) (k := k) (by omega) (all.length - k)
   rw [show k + (all.length - k) = all.length by omega] at this
   rw [this] at hk
   exact h hk
 have hg := (rsK_get hk2 (all.length - k)).1
 rw [show k + (all.length - k) = all.length by omega, getD_lt hk, ey] at hg
 have : z ∈ (rsK e all s (k + 1)).2 := by
   rw [rsK, if_pos hk2]
   exact fdK_all (rsK_ok ho k) hk2 (fun y hy => hy) hz (by rw [← hg]; exact hf)
 have := rsK_mono this (all.length - (k + 1))
 rwa [show k + 1 + (all.length - (k + 1)) = all.length by omega] at this
theorem fdK_rc {n : Nat} {e all : LP} (he : grOk n e) (hall : ∀ y, y ∈ all → ∃ c d : Nat, y = ((c : Int), (d : Int)) ∧ eg e c d = true) {i p q : Nat} : ∀ {l : LP} {s : MI × LP}, i < s.2.length → (∀ y, y ∈ s.2 → rcy (eg e) p q y) → (∀ y, y ∈ l → y ∈ all) → ∀ y, y ∈ (l.foldl (stK e i) s).2 → rcy (eg e) p q y
 | [], _, _, h, _ => h
 | y :: l, s, hi, h, hl => fdK_rc he hall (l := l) (s := stK e i s y) (stK_get hi).2 (by
   unfold stK
   split
   · rename_i hc
     intro z hz
     rcases List.mem_append.mp hz with h1 | h1
     · exact h z h1
     · rw [List.mem_singleton.mp h1]
       obtain ⟨c, d, e1, hcd⟩ := hall y (hl y (by simp))
       obtain ⟨a, b, e2, hab⟩ := h _ (mem_getD (d := (0, 0)) hi)
       rw [e1, e2] at hc
       exact ⟨c, d, e1, hab.trans ((fr_iff he hcd).mp hc.2).rc⟩
   · exact h) fun z hz => hl z (by simp [hz])
theorem rsK_rc {n : Nat} {e all : LP} (he : grOk n e) (hall : ∀ y, y ∈ all → ∃ c d : Nat, y = ((c : Int), (d : Int)) ∧ eg e c d = true) {p q : Nat} {s : MI × LP} (h : ∀ y, y ∈ s.2 → rcy (eg e) p q y) : ∀ k y, y ∈ (rsK e all s k).2 → rcy (eg e) p q y
 | 0 => h
 | k + 1 => by
   have ih := rsK_rc he hall (s := s) h k
   rw [rsK]
   split
   · rename_i hk; exact fdK_rc he hall hk ih fun y hy => hy
   · exact ih
theorem L62_jr {n : Nat} {e : LP} (he : grOk n e) : L62 n (jr e) = L62 n (eg e) := L62_ext fun x y _ _ => jr_eg he x y
/-- The class, as the reference has it. -/
theorem rcl_mem {n : Nat} {e : LP} (he : grOk n e) {a b : Nat} (hab : eg e a b = true) {y : PA} : y ∈ rclL n e ((a : Int), (b : Int)) ↔ rcy (eg e) a b y := by
 have hg := gr_eg he
 have hlt := hg.lt a b hab
 have hmem : ∀ c d : Nat, eg e c d = true → ((c : Int), (d : Int)) ∈ L62 n (jr e) := fun c d hcd => by
   rw [L62_jr he]
   have := hg.lt c d hcd
   exact (L62_mem hg.hn).mpr ⟨c, d, rfl, this.1, this.2, hcd⟩
 have hall : ∀ y, y ∈ L62 n (jr e) → ∃ c d : Nat, y = ((c : Int), (d : Int)) ∧ eg e c d = true := fun y hy => by
   rw [L62_jr he] at hy
   obtain ⟨c, d, e1, _, _, e2⟩ := (L62_mem hg.hn).mp hy
   exact ⟨c, d, e1, e2⟩
 have ho := sK0_ok (hmem a b hab)
 have hok := rsK_ok (e := e) ho (L62 n (jr e)).length
 unfold rclL outF inM
 rw [List.mem_filter]
 constructor
 · rintro ⟨_, h2⟩
   exact rsK_rc he hall (fun z hz => ⟨a, b, List.mem_singleton.mp hz, .refl⟩) _ y ((hok.dom y).mp h2)
 · rintro ⟨c, d, rfl, h⟩
   have key : ((c : Int), (d : Int)) ∈ (clK e (L62 n (jr e)) ((a : Int), (b : Int))).2 := by
     induction h with
     | refl =>
       have h0 : ((a : Int), (b : Int)) ∈ (rsK e (L62 n (jr e)) (sK0 ((a : Int), (b : Int))) 0).2 := List.mem_singleton.mpr rfl
       have := rsK_mono h0 (L62 n (jr e)).length
       rwa [Nat.zero_add] at this
     | @hd c d e' h1 h2 h3 ih => exact rsK_closed ho ih (hmem c e' h2) ((fr_iff he h2).mpr (.inl ⟨rfl, h2, h3⟩))
     | @tl c d e' h1 h2 h3 ih => exact rsK_closed ho ih (hmem e' d h2) ((fr_iff he h2).mpr (.inr ⟨rfl, h2, h3⟩))
   exact ⟨hmem c d (h.ar hab), (hok.dom _).mpr key⟩
end Go.Am.Or

/- Orders: the reference: others, what two lines draw. Printed by genI4.py. -/
namespace Go.Am.Or
open Go Go.Am Go.Proofs
def nj (e : LP) (x y : Nat) : Bool := !jnB e x y
def bfK (l : List Int) (a b : Int) : Nat → Bool → Bool
 | 0, d => d
 | k + 1, d => if l.getD (l.length - (k + 1)) 0 = a then true else if l.getD (l.length - (k + 1)) 0 = b then false else bfK l a b k d
def bfB (l : List Int) (a b : Int) : Bool := bfK l a b l.length false
def df (l : List Int × List Int) (x y : Nat) : Bool := bfB l.1 x y != bfB l.2 x y
end Go.Am.Or

/- Orders: the reference: whether two lists have all nodes, each once. -/
namespace Go.Am.Or
open Go Go.Am Go.Proofs
def lnB (n : Int) (l : List Int × List Int) : Bool := plB n l.1 && plB n l.2
structure p17 (n : Int) (l : List Int × List Int) : Prop where
 n1 : 1 ≤ n
 n7 : n ≤ 7
 h1 : l.1.length < 1000000000000000
 h2 : l.2.length < 1000000000000000
end Go.Am.Or

/- Orders, plain: what the drawn lines draw, and that lines are lines. -/
namespace Go.Am.Or
open Go Go.Am Go.Proofs
/-- A transitive tournament. -/
structure Tt (n : Nat) (t : RF) : Prop where
 ir : ∀ x, x < n → t x x = false
 tr : ∀ x y z, x < n → y < n → z < n → t x y = true → t y z = true → t x z = true
 to : ∀ x y, x < n → y < n → x ≠ y → t x y = true ∨ t y x = true
theorem cnt_mon2 {t : RF} {i j : Nat} : ∀ k, (∀ x, x < k → t x i = true → t x j = true) → cnt t i k ≤ cnt t j k
 | 0, _ => Nat.le_refl _
 | k + 1, h => by
   have ih := cnt_mon2 k fun x hx => h x (by omega)
   rw [cnt, cnt]
   have := h k (by omega)
   split
   · rename_i h1; rw [if_pos (this h1)]; omega
   · split <;> omega
theorem cnt_strict {t : RF} {i j m : Nat} : ∀ k, m < k → (∀ x, x < k → t x i = true → t x j = true) → t m i = false → t m j = true → cnt t i k < cnt t j k
 | 0, hm, _, _, _ => absurd hm (Nat.not_lt_zero _)
 | k + 1, hm, h, h1, h2 => by
   rw [cnt, cnt]
   by_cases e : m = k
   · subst e
     have := cnt_mon2 (t := t) (i := i) (j := j) m fun x hx => h x (by omega)
     rw [if_neg (by rw [h1]; decide), if_pos h2]; omega
   · have := cnt_strict k (by omega) (fun x hx => h x (by omega)) h1 h2
     have h3 := h k (by omega)
     split
     · rename_i h1; rw [if_pos (h3 h1)]; omega
     · split <;> omega
theorem Tt.lt {n : Nat} {t : RF} (h : Tt n t) {a b : Nat} (ha : a < n) (hb : b < n) (hab : t a b = true) : cnt t a n < cnt t b n :=
 cnt_strict n ha (fun x hx h1 => h.tr x a b hx ha hb h1 hab) (h.ir a ha) hab
theorem Tt.iff {n : Nat} {t : RF} (h : Tt n t) {a b : Nat} (ha : a < n) (hb : b < n) (hne : a ≠ b) : cnt t a n < cnt t b n ↔ t a b = true := by
 refine ⟨fun h1 => ?_, h.lt ha hb⟩
 rcases h.to a b ha hb hne with h2 | h2
 · exact h2
 · have := h.lt hb ha h2; omega
theorem Tt.ne {n : Nat} {t : RF} (h : Tt n t) {a b : Nat} (ha : a < n) (hb : b < n) (hne : a ≠ b) : cnt t a n ≠ cnt t b n := by
 rcases h.to a b ha hb hne with h2 | h2
 · have := h.lt ha hb h2; omega
 · have := h.lt hb ha h2; omega
theorem Tt.get {n : Nat} {t : RF} (h : Tt n t) : ∀ i, i ≤ n → ∀ a, a < i → (lnL t n i).getD (cnt t a n) 0 = a
 | 0, _, a, ha => absurd ha (Nat.not_lt_zero _)
 | i + 1, hi, a, ha => by
   have h1 := cnt_lt (h.ir i (by omega)) (show i < n by omega)
   rw [lnL, getD_set (by rw [lnL_len]; exact h1)]
   by_cases e : a = i
   · subst e; rw [if_pos rfl]
   · rw [if_neg (h.ne (by omega) (by omega) e), h.get i (by omega) a (by omega)]
theorem Tt.sur {n : Nat} {t : RF} (h : Tt n t) {p : Nat} (hp : p < n) : ∃ a, a < n ∧ cnt t a n = p := Classical.byContradiction fun hx => by
 have := nodup_len n (p :: (List.range n).map fun a => cnt t a n) (by
   rw [List.nodup_cons]
   refine ⟨fun hm => ?_, ?_⟩
   · obtain ⟨a, ha, e⟩ := List.mem_map.mp hm
     exact hx ⟨a, List.mem_range.mp ha, e⟩
   · rw [List.Nodup, List.pairwise_map]
     exact List.Pairwise.imp_of_mem (fun {x y} hx hy hne => h.ne (List.mem_range.mp hx) (List.mem_range.mp hy) hne) (List.nodup_range (n := n))) (fun x hx => by
   rcases List.mem_cons.mp hx with rfl | hx
   · exact hp
   · obtain ⟨a, ha, e⟩ := List.mem_map.mp hx
     have := cnt_lt (h.ir a (List.mem_range.mp ha)) (List.mem_range.mp ha)
     omega)
 rw [List.length_cons, List.length_map, List.length_range] at this
 omega
theorem Tt.pl {n : Nat} {t : RF} (h : Tt n t) : plB n (lnL t n n) = true := by
 have hl := lnL_len t n n
 have hg : ∀ p, p < n → ∃ a, a < n ∧ cnt t a n = p ∧ (lnL t n n).getD p 0 = a := fun p hp => by
   obtain ⟨a, h1, h2⟩ := h.sur hp
   exact ⟨a, h1, h2, by rw [← h2]; exact h.get n (Nat.le_refl _) a h1⟩
 refine pl_of_nodup ?_ (fun x hx => ?_) hl
 · rw [List.Nodup, List.pairwise_iff_getElem]
   intro i j hi hj hij e
   obtain ⟨a, a1, a2, a3⟩ := hg i (by omega)
   obtain ⟨b, b1, b2, b3⟩ := hg j (by omega)
   rw [getD_lt hi] at a3
   rw [getD_lt hj] at b3
   have : a = b := by omega
   subst this
   omega
 · obtain ⟨i, hi, e⟩ := List.getElem_of_mem hx
   obtain ⟨a, a1, a2, a3⟩ := hg i (by omega)
   rw [getD_lt hi, e] at a3
   omega
theorem bfK_at {l : List Int} (hl : l.Nodup) {i j : Nat} (hi : i < l.length) (hj : j < l.length) (hne : i ≠ j) : ∀ k, k ≤ l.length → l.length - k ≤ i → l.length - k ≤ j → bfK l (l.getD i 0) (l.getD j 0) k false = decide (i < j)
 | 0, _, h, _ => absurd h (by omega)
 | k + 1, hk, h1, h2 => by
   have inj : ∀ {p q : Nat}, p < l.length → q < l.length → l.getD p 0 = l.getD q 0 → p = q := fun {p q} hp hq e => by
     rw [getD_lt hp, getD_lt hq] at e
     exact (List.getElem_inj hl).mp e
   rw [bfK]
   by_cases e1 : l.getD (l.length - (k + 1)) 0 = l.getD i 0
   · have := inj (by omega) hi e1
     rw [if_pos e1, decide_eq_true (by omega)]
   · rw [if_neg e1]
     have n1 : l.length - (k + 1) ≠ i := fun e => e1 (by rw [e])
     by_cases e2 : l.getD (l.length - (k + 1)) 0 = l.getD j 0
     · have := inj (by omega) hj e2
       rw [if_pos e2, decide_eq_false (by omega)]
     · have n2 : l.length - (k + 1) ≠ j := fun e => e2 (by rw [e])
       rw [if_neg e2, bfK_at hl hi hj hne k (by omega) (by omega) (by omega)]
theorem Tt.bf {n : Nat} {t : RF} (h : Tt n t) {a b : Nat} (ha : a < n) (hb : b < n) (hne : a ≠ b) : bfB (lnL t n n) a b = t a b := by
 have hl := lnL_len t n n
 have h1 := bfK_at (pl_nodup h.pl).1 (i := cnt t a n) (j := cnt t b n) (by rw [hl]; exact cnt_lt (h.ir a ha) ha) (by rw [hl]; exact cnt_lt (h.ir b hb) hb) (h.ne ha hb hne) n (by omega) (by omega) (by omega)
 rw [h.get n (Nat.le_refl _) a ha, h.get n (Nat.le_refl _) b hb] at h1
 rw [bfB, hl, h1, Bool.eq_iff_iff, decide_eq_true_eq, h.iff ha hb hne]
theorem isOr.sw {n : Nat} {f r : RF} (h : isOr n f r) (hg : gr n f) : isOr n f (sw r) :=
 ⟨trB_sw h.tr, fun x y hx hy => (h.of x y hx hy).trans or_comm, fun x y hxy => by rw [hg.sy]; exact h.oi y x hxy⟩
theorem tr2 {r : RF} (h : trB r = true) {x y : Nat} (hx : x < 7) (hy : y < 7) (hxy : r x y = true) : r y x = false ∧ ∀ z, z < 7 → r y z = true → r x z = true :=
 of_decide_eq_true h x hx y hy hxy
theorem L46_ext2 {n : Nat} {f g : RF} (h : ∀ x y, x < y → y < n → f x y = g x y) : L46 n f = L46 n g :=
 prK_ext (fun x y _ _ => by
   unfold P46
   by_cases h1 : x < y
   · by_cases h2 : y < n
     · rw [h x y h1 h2]
     · rw [decide_eq_false h2]; simp
   · rw [decide_eq_false h1]; simp) 49 (Nat.le_refl _)
theorem L62_ext2 {n : Nat} {f : RF} {P : RF} (h : ∀ x y, P x y = P62 n f x y) : prK P 7 49 = L62 n f :=
 prK_ext (fun x y _ _ => h x y) 49 (Nat.le_refl _)
end Go.Am.Or

/- Orders: the law Draws. -/
namespace Go.Am.Or
open Go Go.Am Go.Proofs
def nq (n : Int) : Nat → Int
 | 0 => n
 | k + 1 => tmM (nq n k) 7
def tw9 (b : List Int × List Int) : List Int × List Int := (b.1.take 9, b.2.take 9)
def lq (n : Int) (b : List Int × List Int) : Nat → List Int × List Int
 | 0 => tw9 b
 | k + 1 => lnS (nq n k) b
def st4 (n : Int) (b : List Int × List Int) (k : Nat) : St := ⟨(.int .i64 (nq n k) :: dd 4 ++ .ptr 0 0 [] :: dd 7 ++ .ptr 1 0 [] :: .int .i64 k :: dd 161), [.bx (.ar SI 2 [b.1, b.2]), .bx (.ar SI 2 [(lq n b k).1, (lq n b k).2])]⟩
def ex4 : List (List Nat × Ex) := [([], ⟨0, Unit, fun _ => True, fun _ => ⟨(dd 176), []⟩⟩)]
def h4 (n : Int) (b : List Int × List Int) : Hint := ⟨chk 0 [0, 5, 13, 14] (fun k => k ≤ 2) (st4 n b), (ex4).map (·.2)⟩
/-- What is known of the graph. -/
structure F4 (m : Nat) (e : LP) : Prop where
 m0 : (0 : Int) ≤ m
 m1 : (1 : Int) ≤ m
 m7 : (m : Int) ≤ 7
 ge : grOk m e
 el : e.length ≤ 49
 rA : rckN m e = 0 ↔ (orR m (eg e)).2 = true
 rB : rckN m (L46 m (nj e)) = 0 ↔ (orR m (otR m (eg e))).2 = true
 yes : drB m e = true → lnB m (drL m e) = true ∧ L46 m (df (drL m e)) = e
 no : drB m e = false → drL m e = ([], [])
end Go.Am.Or

/- Orders: the reference: less, and whether arrows are an order. -/
namespace Go.Am.Or
open Go Go.Am Go.Proofs
def ltB (a b : Int × Int) : Bool := decide (a.1 < b.1) || (decide (a.1 = b.1) && decide (a.2 < b.2))
theorem call67 (a b : Int × Int) : GCall Try.prog gl 67 true [.ar I64 2 [a.1, a.2], .ar I64 2 [b.1, b.2]] [] [.bool (ltB a b)] [] := by
 refine gcall_of (X := X []) (X_ok []) (f := 67) (fn := Try.f67) (c := bodyOf Try.f67) (by kernel_rfl) (by kernel_rfl) (view := false) (rvs := [.tmp 4]) (by kernel_rfl) (H := fun _ => none) 100 (by kernel_rfl) ?_
 refine of_eq (q := (fun (d : Prop) => (fun (c : Prop) => d ∧ d ∧ d ∧ c ∧ d ∧ c ∧ d ∧ d ∧ d ∧ (a.fst < b.fst → d ∧ d ∧ d ∧ (true = ltB a b ∧ d) ∧ d) ∧ (¬a.fst < b.fst → c ∧ d ∧ c ∧ d ∧ d ∧ d ∧ (a.fst = b.fst → idxPre (1 : Int) (2 : Nat) ∧ d ∧ idxPre (1 : Int) (2 : Nat) ∧ d ∧ d ∧ d ∧ d ∧ d ∧ d ∧ (decide (a.snd < b.snd) = ltB a b ∧ d) ∧ d) ∧ (¬a.fst = b.fst → d ∧ d ∧ d ∧ d ∧ (false = ltB a b ∧ d) ∧ d))) (idxPre (0 : Int) (2 : Nat))) (True)) (by kernel_rfl) ?_
 simp only [zz]
 unfold ltB
 refine ⟨i02, i02, fun h => by rw [decide_eq_true h]; rfl, fun h => ⟨i02, i02, fun h2 => ⟨i12, i12, by rw [decide_eq_false h, decide_eq_true h2]; rfl⟩, fun h2 => by rw [decide_eq_false h, decide_eq_false h2]; rfl⟩⟩
def io1 (n : Int) (l : LP) (i : Nat) : Prop := (0 ≤ (l.getD i (0, 0)).1 ∧ 0 ≤ (l.getD i (0, 0)).2 ∧ (l.getD i (0, 0)).1 < n ∧ (l.getD i (0, 0)).2 < n ∧ (l.getD i (0, 0)).1 ≠ (l.getD i (0, 0)).2) ∧ hasB l ((l.getD i (0, 0)).2, (l.getD i (0, 0)).1) = false ∧ (0 < i → ltB (l.getD (i - 1) (0, 0)) (l.getD i (0, 0)) = true)
def io2 (l : LP) (i k : Nat) : Prop := (l.getD k (0, 0)).1 = (l.getD i (0, 0)).2 → hasB l ((l.getD i (0, 0)).1, (l.getD k (0, 0)).2) = true
def ioA (n : Int) (l : LP) (i : Nat) : Prop := io1 n l i ∧ ∀ k, k < l.length → io2 l i k
instance (n l i) : Decidable (io1 n l i) := by unfold io1; infer_instance
instance (l i k) : Decidable (io2 l i k) := by unfold io2; infer_instance
instance (n l i) : Decidable (ioA n l i) := by unfold ioA; infer_instance
def ioB (n : Int) (l : LP) : Bool := decide (∀ i, i < l.length → ioA n l i)
theorem ioB_no {n : Int} {l : LP} {i : Nat} (hi : i < l.length) (h : ¬ ioA n l i) : ioB n l = false := decide_eq_false fun h2 => h (h2 i hi)
noncomputable def L26_0 : Code := lp (bodyOf Try.f26) 0
noncomputable def L26_2 : Code := lp (bodyOf Try.f26) 2
def sa26 (n : Int) (l : LP) (i : Nat) : St := ⟨(.int .i64 n :: .sl P2 l :: dd 3 ++ .int .i64 i :: dd 89), []⟩
def xa26 (n : Int) (l : LP) : List (List Nat × Ex) := [([], ⟨0, Unit, fun _ => ioB n l = true, fun _ => ⟨(dd 95), []⟩⟩)]
def ha26 (n : Int) (l : LP) : Hint := ⟨chk 0 [0, 1, 5] (fun i => i ≤ l.length ∧ ∀ j, j < i → ioA n l j) (sa26 n l), (xa26 n l).map (·.2)⟩
def sb26 (n : Int) (l : LP) (i k : Nat) : St := ⟨(.int .i64 n :: .sl P2 l :: dd 3 ++ .int .i64 i :: .int .i64 (l.getD i (0, 0)).1 :: .int .i64 (l.getD i (0, 0)).2 :: .int .i64 k :: dd 86), []⟩
def xb26 (n : Int) (l : LP) (i : Nat) : List (List Nat × Ex) := [([0, 1, 5], ⟨2, Unit, fun _ => ∀ k, k < l.length → io2 l i k, fun _ => sa26 n l i⟩)]
def hb26 (n : Int) (l : LP) (i : Nat) : Hint := ⟨chk 0 [0, 1, 5, 6, 7, 8] (fun k => k ≤ l.length ∧ ∀ j, j < k → io2 l i j) (sb26 n l i), (xb26 n l i).map (·.2)⟩
def e67 : Entry Try.prog gl := entry2 67 ⟨Try.f67, by kernel_rfl, by kernel_rfl, by kernel_rfl⟩ P2 P2 (fun _ _ => True) true (fun a b => [.bool (ltB a b)]) (fun _ _ => []) (fun a b _ => call67 a b)
noncomputable abbrev X26 : Cy := X [e36, e67]
noncomputable def R26 (n : Int) (l : LP) : Exit → St → Prop := RetR X26 true false [.tmp 4] [.bool (ioB n l)] []
theorem loop26b (n : Int) (l : LP) (hl : l.length < 1000000000000000) (i : Nat) (hi : i < l.length) : LoopOK X26 L26_2 (hb26 n l i) (bodyR 0 (xa26 n l) (R26 n l)) := by
 refine loop_ok (X_ok _) (H := fun _ _ => none) [0, 1, 5, 6, 7, 8] (fun k => k ≤ l.length ∧ ∀ j, j < k → io2 l i j) (sb26 n l i) (fun k => l.length - k) (xb26 n l i) 250 fun (k : Nat) hk => ?_
 refine of_eq (q := (fun (g : Int) => (fun (f : Nat) => (fun (e : Int) => (fun (d : Prop) => (fun (c : Int × Int) => (fun (b : Int × Int) => (fun (h : Bool) => (fun (a : Prop) => d ∧ d ∧ d ∧ d ∧ (e < (f : Int) → d ∧ d ∧ idxPre e f ∧ idxPre g (2 : Nat) ∧ d ∧ d ∧ d ∧ d ∧ (c.fst = b.snd → d ∧ d ∧ d ∧ d ∧ idxPre e f ∧ idxPre (1 : Int) (2 : Nat) ∧ d ∧ d ∧ (f + 1 ≤ 1000000000000000 ∧ d) ∧ d ∧ d ∧ (h = true → d ∧ d ∧ (false = ioB n l ∧ d) ∧ d) ∧ (h = false → a)) ∧ (¬c.fst = b.snd → d ∧ a)) ∧ (¬e < (f : Int) → ∃ (y : Unit), (∀ (k : Nat), k < List.length l → io2 l i k) ∧ (n = n ∧ l = l ∧ (i : Int) = (i : Int) ∧ d) ∧ d)) (d ∧ inR .i64 (e + 1) ∧ d ∧ ∃ (y : Nat), ((y ≤ List.length l ∧ ∀ (j : Nat), j < y → io2 l i j) ∧ List.length l - y < List.length l - k) ∧ (n = n ∧ l = l ∧ (i : Int) = (i : Int) ∧ b.fst = b.fst ∧ b.snd = b.snd ∧ e + 1 = (y : Int) ∧ d) ∧ d)) (!hasB l (b.fst, c.snd))) (List.getD l i (g, g))) (List.getD l k (g, g))) (True)) ((k : Int))) (List.length l)) ((0 : Int))) (by kernel_rfl) ?_
 simp only [zz]
 obtain ⟨k1, k2⟩ := hk
 have nx : k < l.length → io2 l i k → inR .i64 ((k : Int) + 1) ∧ ∃ y : Nat, ((y ≤ l.length ∧ ∀ j, j < y → io2 l i j) ∧ l.length - y < l.length - k) ∧ (k : Int) + 1 = y := fun h1 h2 => ⟨by simp only [inR]; omega, k + 1, ⟨⟨by omega, fun j hj => by
   by_cases e : j = k
   · rw [e]; exact h2
   · exact k2 j (by omega)⟩, by omega⟩, by omega⟩
 refine ⟨fun h1 => ?_, fun h1 => by rw [show k = l.length by omega] at k2; exact k2⟩
 have h1 : k < l.length := by omega
 have ii := idx_nat h1
 refine ⟨ii, i02, fun h2 => ⟨ii, i12, by omega, fun h3 => ?_, fun h3 => nx h1 fun _ => by simpa using h3⟩, fun h2 => nx h1 fun h3 => absurd h3 h2⟩
 refine (ioB_no hi fun h4 => ?_).symm
 have := h4.2 k h1 h2
 rw [this] at h3
 cases h3
theorem loop26a (n : Int) (l : LP) (hl : l.length < 1000000000000000) : LoopOK X26 L26_0 (ha26 n l) (R26 n l) := by
 refine loop_ok (X_ok _) (H := fun i _ => some (hb26 n l i)) [0, 1, 5] (fun i => i ≤ l.length ∧ ∀ j, j < i → ioA n l j) (sa26 n l) (fun i => l.length - i) (xa26 n l) 350 fun (i : Nat) hi => ?_
 have hL := fun hi => loop26b n l hl i hi
 refine of_eq (q := (fun (r : Int) => (fun (o : Nat) => (fun (m : Nat) => (fun (g : Int) => (fun (f : Int) => (fun (e : Int × Int) => (fun (d : Prop) => (fun (c : Prop) => (fun (h : Prop) => (fun (b : Int × Int) => (fun (q : Int) => (fun (p : Int) => (fun (s : Bool) => (fun (a : Prop) => d ∧ d ∧ d ∧ d ∧ (f < (m : Int) → d ∧ d ∧ idxPre f m ∧ idxPre g (2 : Nat) ∧ d ∧ d ∧ d ∧ idxPre f m ∧ idxPre r (2 : Nat) ∧ d ∧ d ∧ d ∧ d ∧ d ∧ d ∧ (p < g → d ∧ d ∧ d ∧ d ∧ d ∧ d ∧ h) ∧ (¬p < g → d ∧ d ∧ d ∧ d ∧ (q < g → d ∧ d ∧ d ∧ d ∧ h) ∧ (¬q < g → d ∧ d ∧ d ∧ d ∧ d ∧ (n ≤ p → d ∧ d ∧ h) ∧ (¬n ≤ p → d ∧ d ∧ d ∧ d ∧ d ∧ (n ≤ q → h) ∧ (¬n ≤ q → d ∧ d ∧ d ∧ d ∧ d ∧ (p = q → d ∧ d ∧ d ∧ c) ∧ (¬p = q → d ∧ d ∧ d ∧ d ∧ m + 1 ≤ 1000000000000000 ∧ d ∧ d ∧ (hasB l (q, p) = true → d ∧ c) ∧ (hasB l (q, p) = false → d ∧ d ∧ d ∧ (g < f → d ∧ d ∧ inR .i64 (f - r) ∧ idxPre (f - r) m ∧ d ∧ d ∧ d ∧ idxPre f m ∧ d ∧ d ∧ d ∧ d ∧ d ∧ (s = true → c) ∧ (s = false → a)) ∧ (¬g < f → d ∧ d ∧ a)))))))) ∧ (¬f < (m : Int) → ∃ (y : Unit), ioB n l = true ∧ d ∧ d)) (d ∧ LoopOK X26 L26_2 (hb26 n l i) (bodyR (0 : Nat) (xa26 n l) (R26 n l)) ∧ (∃ (y : Nat), (y ≤ o ∧ ∀ (j : Nat), j < y → io2 l i j) ∧ (n = n ∧ l = l ∧ f = f ∧ p = (List.getD l i (g, g)).fst ∧ q = (List.getD l i (g, g)).snd ∧ g = (y : Int) ∧ d) ∧ d) ∧ (∀ (y : Unit), (∀ (k : Nat), k < o → io2 l i k) → d ∧ inR .i64 (f + r) ∧ d ∧ ∃ (y : Nat), ((y ≤ o ∧ ∀ (j : Nat), j < y → ioA n l j) ∧ o - y < o - i) ∧ (n = n ∧ l = l ∧ f + r = (y : Int) ∧ d) ∧ d) ∧ d)) (!ltB (e.fst, e.snd) (p, q))) (b.fst)) (b.snd)) (List.getD l i (g, g))) (d ∧ d ∧ d ∧ d ∧ d ∧ c)) (d ∧ d ∧ (false = ioB n l ∧ d) ∧ d)) (True)) (List.getD l (f - r).toNat (g, g))) ((i : Int))) ((0 : Int))) (List.length l)) (List.length l)) ((1 : Int))) (by kernel_rfl) ?_
 simp only [zz]
 obtain ⟨i1, i2⟩ := hi
 refine ⟨fun h1 => ?_, fun h1 => decide_eq_true fun j hj => i2 j (by omega)⟩
 have h1 : i < l.length := by omega
 have ii := idx_nat h1
 have no : ¬ io1 n l i → false = ioB n l := fun h => (ioB_no h1 fun h2 => h h2.1).symm
 have nx : io1 n l i → (∀ k, k < l.length → io2 l i k) → inR .i64 ((i : Int) + 1) ∧ ∃ y : Nat, ((y ≤ l.length ∧ ∀ j, j < y → ioA n l j) ∧ l.length - y < l.length - i) ∧ (i : Int) + 1 = y := fun h2 h3 => ⟨by simp only [inR]; omega, i + 1, ⟨⟨by omega, fun j hj => by
   by_cases e : j = i
   · rw [e]; exact ⟨h2, h3⟩
   · exact i2 j (by omega)⟩, by omega⟩, by omega⟩
 have h0 : ∃ y : Nat, (y ≤ l.length ∧ ∀ j, j < y → io2 l i j) ∧ (0 : Int) = y := ⟨0, ⟨Nat.zero_le _, fun j hj => absurd hj (Nat.not_lt_zero _)⟩, rfl⟩
 refine ⟨ii, i02, ii, i12, fun h2 => no fun h => by have := h.1; omega, fun h2 => ⟨fun h3 => no fun h => by have := h.1; omega, fun h3 => ⟨fun h4 => no fun h => by have := h.1; omega, fun h4 => ⟨fun h5 => no fun h => by have := h.1; omega, fun h5 => ⟨fun h6 => no fun h => h.1.2.2.2.2 h6, fun h6 => ⟨by omega, (fun h7 => no fun h => by rw [h.2.1] at h7; cases h7), fun h7 => ⟨fun h8 => ?_, fun h8 => ⟨hL h1, h0, fun _ => nx ⟨⟨by omega, by omega, by omega, by omega, h6⟩, h7, fun h9 => absurd h9 (by omega)⟩⟩⟩⟩⟩⟩⟩⟩⟩
 have e1 : ((i : Int) - 1).toNat = i - 1 := by omega
 rw [e1]
 refine ⟨by simp only [inR]; omega, by unfold idxPre; omega, ii, fun h9 => no fun h => ?_, fun h9 => ⟨hL h1, h0, fun _ => nx ⟨⟨by omega, by omega, by omega, by omega, h6⟩, h7, fun _ => by simpa using h9⟩⟩⟩
 have := h.2.2 (by omega)
 rw [show ltB ((l.getD (i - 1) (0, 0)).1, (l.getD (i - 1) (0, 0)).2) ((l.getD i (0, 0)).1, (l.getD i (0, 0)).2) = true from this] at h9
 cases h9
theorem call26 (n : Int) (l : LP) (hl : l.length < 1000000000000000) : GCall Try.prog gl 26 true [.int .i64 n, .sl P2 l] [] [.bool (ioB n l)] [] := by
 refine gcall_of (X := X26) ((X_ok _)) (f := 26) (fn := Try.f26) (c := bodyOf Try.f26) (by kernel_rfl) (by kernel_rfl) (view := false) (rvs := [.tmp 4]) (by kernel_rfl) (H := (fun _ => some (ha26 n l))) 100 (by kernel_rfl) ?_
 have hL := loop26a n l hl
 refine of_eq (q := True ∧ True ∧ LoopOK X26 L26_0 (ha26 n l) (R26 n l) ∧ (∃ (y : Nat), (y ≤ List.length l ∧ ∀ (j : Nat), j < y → ioA n l j) ∧ (n = n ∧ l = l ∧ (0 : Int) = (y : Int) ∧ True) ∧ True) ∧ (∀ (y : Unit), ioB n l = true → True ∧ True ∧ (true = ioB n l ∧ True) ∧ True) ∧ True) (by kernel_rfl) ?_
 simp only [zz]
 exact ⟨hL, ⟨0, ⟨Nat.zero_le _, fun j hj => absurd hj (Nat.not_lt_zero _)⟩, rfl⟩, fun _ h => h.symm⟩
def e26 : Entry Try.prog gl := entry2 26 ⟨Try.f26, by kernel_rfl, by kernel_rfl, by kernel_rfl⟩ I64 SP (fun _ l => (l : LP).length < 1000000000000000) true (fun n l => [.bool (ioB n l)]) (fun _ _ => []) (call26)
end Go.Am.Or

/- Orders: the reference: the number of orders that have some arrows. Printed by genJ2.py. -/
namespace Go.Am.Or
open Go Go.Am Go.Proofs
def dcB (l : LP) (x : PA) : Bool := hasB l x || hasB l (tn x)
def okJ (l c : LP) (j : Nat) : Bool := decide (∀ i, i < j → hasB (l ++ c.take i) (tn (c.getD i (0, 0))) = false)
def hasF (l : LP) (x y : Nat) : Bool := hasB l ((x : Int), (y : Int))
/-- The number of orders that have some arrows, as the reference counts them. -/
def cnC (n : Nat) (e : LP) : Nat → LP → Nat
 | 0, _ => 0
 | d + 1, l => match e.find? fun x => !dcB l x with
   | none => if ioB n (L62 n (hasF l)) = true then 1 else 0
   | some x => (if okJ l (rclL n e x) (rclL n e x).length = true then cnC n e d (l ++ rclL n e x) else 0) + (if okJ l (rclL n e (tn x)) (rclL n e (tn x)).length = true then cnC n e d (l ++ rclL n e (tn x)) else 0)
def cnx (n : Nat) (e : LP) (d : Nat) (l : LP) (x : PA) : Nat := if okJ l (rclL n e x) (rclL n e x).length = true then cnC n e d (l ++ rclL n e x) else 0
theorem cnC_le (n : Nat) (e : LP) : ∀ d l, cnC n e d l ≤ 2 ^ d
 | 0, _ => by simp [cnC]
 | d + 1, l => by
   have h : ∀ x, (if okJ l (rclL n e x) (rclL n e x).length = true then cnC n e d (l ++ rclL n e x) else 0) ≤ 2 ^ d := fun x => by
     split
     · exact cnC_le n e d _
     · exact Nat.zero_le _
   rw [cnC, Nat.pow_succ]
   split
   · have : 0 < 2 ^ d := Nat.pow_pos (by decide)
     split <;> omega
   · rename_i x hx
     have := h x
     have := h (tn x)
     omega
theorem okJ_succ (l c : LP) (j : Nat) : okJ l c (j + 1) = (okJ l c j && !hasB (l ++ c.take j) (tn (c.getD j (0, 0)))) := by
 unfold okJ
 rw [Bool.eq_iff_iff, Bool.and_eq_true, decide_eq_true_eq, decide_eq_true_eq]
 constructor
 · intro h
   exact ⟨fun i hi => h i (by omega), by rw [h j (by omega)]; rfl⟩
 · rintro ⟨h1, h2⟩ i hi
   by_cases e : i = j
   · rw [e]; simpa using h2
   · exact h1 i (by omega)
def unD (e l : LP) : Nat := e.countP fun x => !dcB l x
theorem find_at {p : PA → Bool} : ∀ {e : LP} {i : Nat}, i < e.length → (∀ j, j < i → p (e.getD j (0, 0)) = false) → p (e.getD i (0, 0)) = true → e.find? p = some (e.getD i (0, 0))
 | [], i, hi, _, _ => absurd hi (Nat.not_lt_zero _)
 | x :: e, 0, _, _, h => by
   have h : p x = true := h
   rw [List.find?_cons_of_pos h]; try rfl
 | x :: e, i + 1, hi, h1, h2 => by
   have h0 : p x = false := h1 0 (by omega)
   rw [List.find?_cons_of_neg (by rw [h0]; decide)]
   exact find_at (e := e) (by simpa using hi) (fun j hj => h1 (j + 1) (by omega)) h2
theorem find_no {p : PA → Bool} {e : LP} (h : ∀ j, j < e.length → p (e.getD j (0, 0)) = false) : e.find? p = none := by
 rw [List.find?_eq_none]
 intro x hx
 obtain ⟨i, hi, ee⟩ := List.getElem_of_mem hx
 have := h i hi
 rw [getD_lt hi, ee] at this
 rw [this]; decide
theorem ctp_less {p q : PA → Bool} (hpq : ∀ x, p x = true → q x = true) {y : PA} (hp : p y = false) (hq : q y = true) : ∀ {e : LP}, y ∈ e → e.countP p < e.countP q
 | [], hy => absurd hy (by simp)
 | x :: e, hy => by
   have hle : e.countP p ≤ e.countP q := List.countP_mono_left fun x _ h => hpq x h
   rw [List.countP_cons, List.countP_cons]
   rcases List.mem_cons.mp hy with rfl | hy
   · rw [hp, hq]; simp; omega
   · have := ctp_less hpq hp hq hy
     cases h1 : p x with
     | false => cases h2 : q x <;> simp <;> omega
     | true => rw [hpq x h1]; simp; omega
theorem gr_nd {n : Nat} {e : LP} (he : grOk n e) : e.Nodup := by
 have key : ∀ k, k ≤ e.length → (e.take k).Nodup ∧ ∀ y, y ∈ e.take k → 0 < k → lt2 y (e.getD (k - 1) (0, 0)) ∨ y = e.getD (k - 1) (0, 0) := by
   intro k
   induction k with
   | zero => intro _; simp
   | succ k ih =>
     intro hk
     obtain ⟨h1, h2⟩ := ih (by omega)
     have hlt : ∀ y, y ∈ e.take k → lt2 y (e.getD k (0, 0)) := fun y hy => by
       have k0 : 0 < k := by
         cases k with
         | zero => simp at hy
         | succ k => omega
       have h3 := (he.he k (by omega)).2.2.2 k0
       unfold lt2 at *
       rcases h2 y hy k0 with h | h
       · omega
       · rw [h]; exact h3
     rw [take_getD (d := (0, 0)) (show k < e.length by omega)]
     refine ⟨List.nodup_append.mpr ⟨h1, by simp, fun a ha b hb e1 => ?_⟩, fun y hy _ => ?_⟩
     · rw [List.mem_singleton] at hb
       have := hlt a ha
       rw [e1, hb] at this
       unfold lt2 at this; omega
     · rw [Nat.add_sub_cancel]
       rcases List.mem_append.mp hy with hy | hy
       · exact .inl (hlt y hy)
       · exact .inr (List.mem_singleton.mp hy)
 have := (key e.length (Nat.le_refl _)).1
 rwa [List.take_length] at this
theorem in62 {n : Nat} {e : LP} (he : grOk n e) {x : PA} (hx : x ∈ e) : (x ∈ L62 n (jr e) ∧ tn x ∈ L62 n (jr e)) ∧ x ∈ rclL n e x ∧ tn x ∈ rclL n e (tn x) := by
 have hn := he.hn
 have h := he.at hx
 obtain ⟨a, ha⟩ : ∃ a : Nat, x.1 = (a : Int) := ⟨x.1.toNat, by omega⟩
 obtain ⟨b, hb⟩ : ∃ b : Nat, x.2 = (b : Int) := ⟨x.2.toNat, by omega⟩
 have ex : x = ((a : Int), (b : Int)) := Prod.ext ha hb
 have et : tn x = ((b : Int), (a : Int)) := Prod.ext hb ha
 have hg : eg e a b = true := by
   unfold eg
   exact List.any_eq_true.mpr ⟨x, hx, by simp [ha, hb]⟩
 have hg2 : eg e b a = true := by rw [eg_sy]; exact hg
 refine ⟨⟨(L62_mem (by omega)).mpr ⟨a, b, ex, by omega, by omega, by rw [jr_eg he]; exact hg⟩, (L62_mem (by omega)).mpr ⟨b, a, et, by omega, by omega, by rw [jr_eg he]; exact hg2⟩⟩, ?_, ?_⟩
 · rw [ex]; exact (rcl_mem he hg).mpr ⟨a, b, rfl, .refl⟩
 · rw [et]; exact (rcl_mem he hg2).mpr ⟨b, a, rfl, .refl⟩
theorem gr_len {n : Nat} {e : LP} (he : grOk n e) : e.length ≤ 49 := by
 have h1 := nodup_le (l := e) (m := L62 n (jr e)) (gr_nd he) fun y hy => (in62 he hy).1.1
 have h2 : (L62 n (jr e)).length ≤ 49 := prK_len _ 7 49
 omega
theorem io_nil (n : Int) : ioB n [] = true := decide_eq_true fun i hi => absurd hi (Nat.not_lt_zero _)
theorem dcB_app {l c : LP} {x : PA} (h : dcB l x = true) : dcB (l ++ c) x = true := by
 unfold dcB hasB at *
 simp only [Bool.or_eq_true, decide_eq_true_eq, List.mem_append] at *
 exact h.elim (fun h => .inl (.inl h)) fun h => .inr (.inl h)
theorem un_less {e l c : LP} {x : PA} (hx : x ∈ e) (hd : dcB l x = false) (hc : dcB c x = true) : unD e (l ++ c) < unD e l :=
 ctp_less (fun y h => by
   cases h2 : dcB l y with
   | false => rfl
   | true => rw [dcB_app h2] at h; cases h) (by
   have : dcB (l ++ c) x = true := by
     unfold dcB hasB at *
     simp only [Bool.or_eq_true, decide_eq_true_eq, List.mem_append] at *
     exact hc.elim (fun h => .inl (.inr h)) fun h => .inr (.inr h)
   rw [this]; rfl) (by rw [hd]; rfl) hx
theorem cnx_le (n : Nat) (e : LP) (d : Nat) (hd : d ≤ 50) (l : LP) (x : PA) : cnx n e d l x ≤ 1125899906842624 ∧ cnC n e d l ≤ 1125899906842624 := by
 have h1 : 2 ^ d ≤ 2 ^ 50 := Nat.pow_le_pow_right (by decide) hd
 have h3 : ∀ l, cnC n e d l ≤ 1125899906842624 := fun l => Nat.le_trans (cnC_le n e d l) h1
 unfold cnx
 split
 · exact ⟨h3 _, h3 _⟩
 · exact ⟨by omega, h3 _⟩
theorem cnC_some {n : Nat} {e : LP} {d : Nat} {l : LP} {x : PA} (h : (e.find? fun x => !dcB l x) = some x) : cnC n e (d + 1) l = cnx n e d l x + cnx n e d l (tn x) := by
 rw [cnC, h]; try rfl
theorem cnC_none {n : Nat} {e : LP} {d : Nat} {l : LP} (h : (e.find? fun x => !dcB l x) = none) : cnC n e (d + 1) l = if ioB n (L62 n (hasF l)) = true then 1 else 0 := by
 rw [cnC, h]
def xk (x : PA) (k : Nat) : PA := if k = 0 then x else tn x
def sm (n : Nat) (e : LP) (d : Nat) (l : LP) (x : PA) : Nat → Nat
 | 0 => 0
 | 1 => cnx n e d l x
 | _ => cnx n e d l x + cnx n e d l (tn x)
theorem sm_step (n : Nat) (e : LP) (d : Nat) (l : LP) (x : PA) : ∀ k, k < 2 → sm n e d l x (k + 1) = sm n e d l x k + cnx n e d l (xk x k) ∧ xk x (k + 1) = tn x
 | 0, _ => ⟨(Nat.zero_add _).symm, rfl⟩
 | 1, _ => ⟨rfl, rfl⟩
 | k + 2, h => absurd h (by omega)
theorem sm_le (n : Nat) (e : LP) (d : Nat) (hd : d ≤ 50) (l : LP) (x : PA) (k : Nat) : sm n e d l x k ≤ 2251799813685248 := by
 have h1 := (cnx_le n e d hd l x).1
 have h2 := (cnx_le n e d hd l (tn x)).1
 unfold sm
 split <;> omega
structure ok50 (n : Nat) (e : LP) (d : Nat) (l : LP) : Prop where
 ge : grOk n e
 u : unD e l < d
 d22 : d ≤ 50
 l : l.length + 49 * d ≤ 3000
def CW (n : Nat) (e : LP) (d : Nat) : Prop := ∀ l : LP, ok50 n e d l → GCall Try.prog gl 50 true [.int .i64 n, .sl P2 e, .sl P2 l] [] [.int .i64 (cnC n e d l : Nat)] []
def get50 (xs : List AV) (_ : List Ob) : Option LP :=
 match xs with
 | [_, _, .sl t l] => castL t P2 l
 | _ => none
def e50 (n : Nat) (e : LP) (d : Nat) (h : CW n e d) : Entry Try.prog gl := entryW 50 ⟨Try.f50, by kernel_rfl, by kernel_rfl, by kernel_rfl⟩ false get50 (ok50 n e d) true (fun l => [.int .i64 n, .sl P2 e, .sl P2 l]) (fun _ => []) (fun l => [.int .i64 (cnC n e d l : Nat)]) (fun _ => []) h
noncomputable def X50 (n : Nat) (e : LP) (d : Nat) (h : CW n e d) (t : Nat) : Cy := { Xd [e36, e44, e26, e50 n e d h] (drOf [(18, 12)]) with hs := fun i => Nat.beq i t }
theorem X50_ok (n : Nat) (e : LP) (d : Nat) (h : CW n e d) (t : Nat) : (X50 n e d h t).Ok := have q := Xd_ok [e36, e44, e26, e50 n e d h] (drOf [(18, 12)]); { tt := q.tt, Γ := q.Γ, Γd := q.Γd, Yl := q.Yl }
noncomputable def L50_0 : Code := lp (bodyOf Try.f50) 0
noncomputable def L50_2 : Code := lp (bodyOf Try.f50) 2
noncomputable def L50_4 : Code := lp (bodyOf Try.f50) 4
noncomputable def L50_6 : Code := lp (bodyOf Try.f50) 6
noncomputable def L50_8 : Code := lp (bodyOf Try.f50) 8
def az50S (n : Nat) (l : LP) (a : Nat) : St := ⟨(.int .i64 n :: .dead :: .sl P2 l :: dd 15 ++ nl :: .int .i64 a :: dd 102), []⟩
def at50S (n : Nat) (l : LP) (a : Nat) (r : LP) : St := ⟨(.int .i64 n :: .dead :: .sl P2 l :: dd 15 ++ .own 0 0 :: .int .i64 a :: dd 102), [.sc 0 52 P2 r]⟩
def bz50S (n : Nat) (l : LP) (a b : Nat) : St := ⟨(.int .i64 n :: .dead :: .sl P2 l :: dd 15 ++ nl :: .int .i64 a :: .int .i64 b :: dd 101), []⟩
def bt50S (n : Nat) (l : LP) (a : Nat) (r : LP) (b : Nat) : St := ⟨(.int .i64 n :: .dead :: .sl P2 l :: dd 15 ++ .own 0 0 :: .int .i64 a :: .int .i64 b :: dd 101), [.sc 0 52 P2 r]⟩
def fb50S (n : Nat) (l : LP) (a : Nat) : List Fam := [⟨Nat, fun b => b ≤ n ∧ prK (P62 n (hasF l)) 7 (a * 7 + b) = [], bz50S n l a, fun b => n - b, fun _ _ => none⟩, ⟨Nat, fun b => b ≤ n, fun b => bt50S n l a (prK (P62 n (hasF l)) 7 (a * 7 + b)) b, fun b => n - b, fun _ _ => none⟩]
def xb50S (n : Nat) (l : LP) (a : Nat) : List (List Nat × Ex) := [([0, 2, 18, 19], ⟨8, Unit, fun _ => prK (P62 n (hasF l)) 7 (a * 7 + n) = [], fun _ => az50S n l a⟩), ([0, 2, 18, 19], ⟨8, Unit, fun _ => True, fun _ => at50S n l a (prK (P62 n (hasF l)) 7 (a * 7 + n))⟩)]
def hb50S (n : Nat) (l : LP) (a : Nat) : Hint := ⟨chks 0 [0, 2, 18, 19, 20] (fb50S n l a), (xb50S n l a).map (·.2)⟩
theorem loop50Sb (n : Nat) (l : LP) (hn : n ≤ 7) (hl : l.length < 1000000000000000) (e : LP) (d : Nat) (h : CW n e d) (a : Nat) (ha : a < n) (R : Exit → St → Prop) : LoopOK (X50 n e d h 57) L50_8 (hb50S n l a) R := by
 have hP : ∀ b, b < n → (P62 n (hasF l)) a b = hasB l ((a : Int), (b : Int)) := fun b h1 => by
   have hab := decide_eq_true ha
   have hbn := decide_eq_true h1
   simp only [P46, P62, hasF, hab, hbn, Bool.true_and]
 refine loop_fams (X50_ok _ _ _ _ _) [0, 2, 18, 19, 20] (fb50S n l a) (xb50S n l a) 250 ⟨fun (b : Nat) hb => ?_, fun (b : Nat) hb => ?_, trivial⟩
 · refine of_eq (q := (fun (h : Nat) => (fun (f : Prop) => (fun (e : Int) => (fun (g : Int) => (fun (d : Int) => (fun (c : Int) => f ∧ f ∧ f ∧ (e < d → f ∧ f ∧ f ∧ f ∧ (List.length l + 1 ≤ 1000000000000000 ∧ f) ∧ (hasB l (c, e) = true → f ∧ f ∧ f ∧ f ∧ f ∧ sumPre (0 : Nat) [(c, e)].length (nat_lit 16) ∧ f ∧ f ∧ inR .i64 g ∧ f ∧ ((∃ (y : Nat), ((y ≤ n ∧ prK (P62 n (hasF l)) h (a * h + y) = []) ∧ n - y < n - b) ∧ (d = d ∧ l = l ∧ False ∧ c = c ∧ g = (y : Int) ∧ f) ∧ f) ∨ ∃ (y : Nat), (y ≤ n ∧ n - y < n - b) ∧ (d = d ∧ l = l ∧ f ∧ c = c ∧ g = (y : Int) ∧ f) ∧ [(c, e)] = prK (P62 n (hasF l)) h (a * h + y) ∧ f)) ∧ (hasB l (c, e) = false → f ∧ inR .i64 g ∧ f ∧ ((∃ (y : Nat), ((y ≤ n ∧ prK (P62 n (hasF l)) h (a * h + y) = []) ∧ n - y < n - b) ∧ (d = d ∧ l = l ∧ f ∧ c = c ∧ g = (y : Int) ∧ f) ∧ f) ∨ ∃ (y : Nat), (y ≤ n ∧ n - y < n - b) ∧ (d = d ∧ l = l ∧ False ∧ c = c ∧ g = (y : Int) ∧ f) ∧ False))) ∧ (¬e < d → (∃ (y : Unit), prK (P62 n (hasF l)) h (a * h + n) = [] ∧ (d = d ∧ l = l ∧ f ∧ c = c ∧ f) ∧ f) ∨ ∃ (y : Unit), f ∧ (d = d ∧ l = l ∧ False ∧ c = c ∧ f) ∧ False)) ((a : Int))) ((n : Int))) (e + 1)) ((b : Int))) (True)) ((7 : Nat))) (by kernel_rfl) ?_
   simp only [zz]
   obtain ⟨b1, b2⟩ := hb
   refine ⟨fun h1 => ?_, fun h1 => by rwa [show b = n by omega] at b2⟩
   have h1 : b < n := by omega
   have hst := prK_step (P := P62 n (hasF l)) (i := a) (j := b) (w := 7) (by omega)
   rw [hP b h1] at hst
   have yes : hasB l ((a : Int), (b : Int)) = true → ∃ y : Nat, ((y ≤ n) ∧ n - y < n - b) ∧ (b : Int) + 1 = y ∧ [((a : Int), (b : Int))] = prK (P62 n (hasF l)) 7 (a * 7 + y) := fun h => ⟨b + 1, ⟨by omega, by omega⟩, by omega, by rw [hst, if_pos h, b2]; rfl⟩
   have no : hasB l ((a : Int), (b : Int)) = false → ∃ y : Nat, (((y ≤ n) ∧ prK (P62 n (hasF l)) 7 (a * 7 + y) = []) ∧ n - y < n - b) ∧ (b : Int) + 1 = y := fun h => ⟨b + 1, ⟨⟨by omega, by rw [hst, if_neg (by rw [h]; decide)]; exact b2⟩, by omega⟩, by omega⟩
   have iR := in1 (i := b) (by omega)
   have sP : sumPre 0 [((a : Int), (b : Int))].length 16 := by simp [sumPre]
   clear hst hP b2
   have he1 : l.length + 1 ≤ 1000000000000000 := by omega
   (repeat' first | with_reducible exact trivial | with_reducible apply And.intro | intro _)
   all_goals first | exact iR | exact sP | assumption | exact yes (by clear yes no; simp_all [Int.ofNat_inj]) | exact no (by clear yes no; simp_all [Int.ofNat_inj])
 · refine of_eq (q := (fun (i : Nat) => (fun (j : LP) => (fun (h : Prop) => (fun (g : Int) => (fun (k : Int) => (fun (f : Int) => (fun (e : Int) => (fun (d : LP) => (fun (c : Prop) => h ∧ h ∧ h ∧ (g < f → h ∧ h ∧ h ∧ h ∧ (List.length l + 1 ≤ 1000000000000000 ∧ h) ∧ (hasB l (e, g) = true → h ∧ h ∧ h ∧ h ∧ h ∧ sumPre (List.length d) [(e, g)].length (nat_lit 16) ∧ h ∧ h ∧ inR .i64 k ∧ h ∧ (c ∨ ∃ (y : Nat), (y ≤ n ∧ n - y < n - b) ∧ (f = f ∧ l = l ∧ h ∧ e = e ∧ k = (y : Int) ∧ h) ∧ d ++ [(e, g)] = prK (P62 n (hasF l)) i (a * i + y) ∧ h)) ∧ (hasB l (e, g) = false → h ∧ inR .i64 k ∧ h ∧ (c ∨ ∃ (y : Nat), (y ≤ n ∧ n - y < n - b) ∧ (f = f ∧ l = l ∧ h ∧ e = e ∧ k = (y : Int) ∧ h) ∧ d = prK (P62 n (hasF l)) i (a * i + y) ∧ h))) ∧ (¬g < f → (∃ (y : Unit), j = [] ∧ (f = f ∧ l = l ∧ False ∧ e = e ∧ h) ∧ h) ∨ ∃ (y : Unit), h ∧ (f = f ∧ l = l ∧ h ∧ e = e ∧ h) ∧ d = j ∧ h)) (∃ (y : Nat), ((y ≤ n ∧ prK (P62 n (hasF l)) i (a * i + y) = []) ∧ n - y < n - b) ∧ (f = f ∧ l = l ∧ False ∧ e = e ∧ k = (y : Int) ∧ h) ∧ h)) (prK (P62 n (hasF l)) i (a * i + b))) ((a : Int))) ((n : Int))) (g + 1)) ((b : Int))) (True)) (prK (P62 n (hasF l)) i (a * i + n))) ((7 : Nat))) (by kernel_rfl) ?_
   simp only [zz]
   have b1 : b ≤ n := hb
   have hlen := prK_len (P62 n (hasF l)) 7 (a * 7 + b)
   refine ⟨fun h1 => ?_, fun h1 => by rw [show b = n by omega]⟩
   have h1 : b < n := by omega
   have hst := prK_step (P := P62 n (hasF l)) (i := a) (j := b) (w := 7) (by omega)
   rw [hP b h1] at hst
   have yes : hasB l ((a : Int), (b : Int)) = true → ∃ y : Nat, ((y ≤ n) ∧ n - y < n - b) ∧ (b : Int) + 1 = y ∧ prK (P62 n (hasF l)) 7 (a * 7 + b) ++ [((a : Int), (b : Int))] = prK (P62 n (hasF l)) 7 (a * 7 + y) := fun h => ⟨b + 1, ⟨by omega, by omega⟩, by omega, by rw [hst, if_pos h]⟩
   have no : hasB l ((a : Int), (b : Int)) = false → ∃ y : Nat, ((y ≤ n) ∧ n - y < n - b) ∧ (b : Int) + 1 = y ∧ prK (P62 n (hasF l)) 7 (a * 7 + b) = prK (P62 n (hasF l)) 7 (a * 7 + y) := fun h => ⟨b + 1, ⟨by omega, by omega⟩, by omega, by rw [hst, if_neg (by rw [h]; decide)]⟩
   have iR := in1 (i := b) (by omega)
   have sP : sumPre (prK (P62 n (hasF l)) 7 (a * 7 + b)).length [((a : Int), (b : Int))].length 16 := by unfold sumPre; simp; omega
   clear hst hP
   have he1 : l.length + 1 ≤ 1000000000000000 := by omega
   (repeat' first | with_reducible exact trivial | with_reducible apply And.intro | intro _)
   all_goals first | exact iR | exact sP | assumption | exact yes (by clear yes no; simp_all [Int.ofNat_inj]) | exact no (by clear yes no; simp_all [Int.ofNat_inj])
def fa50S (n : Nat) (l : LP) : List Fam := [⟨Nat, fun a => a ≤ n ∧ prK (P62 n (hasF l)) 7 (a * 7) = [], az50S n l, fun a => n - a, fun a _ => some (hb50S n l a)⟩, ⟨Nat, fun a => a ≤ n, fun a => at50S n l a (prK (P62 n (hasF l)) 7 (a * 7)), fun a => n - a, fun a _ => some (hb50S n l a)⟩]
def xa50S (n : Nat) (l : LP) : List (List Nat × Ex) := [([0, 18], ⟨6, Unit, fun _ => L62 n (hasF l) = [], fun _ => ⟨(.int .i64 n :: dd 17 ++ nl :: dd 103), []⟩⟩), ([0, 18], ⟨6, Unit, fun _ => True, fun _ => ⟨(.int .i64 n :: dd 17 ++ .own 0 0 :: dd 103), [.sc 0 52 P2 (L62 n (hasF l))]⟩⟩)]
def ha50S (n : Nat) (l : LP) : Hint := ⟨chks 0 [0, 2, 18, 19] (fa50S n l), (xa50S n l).map (·.2)⟩
theorem loop50Sa (n : Nat) (l : LP) (hn : n ≤ 7) (hl : l.length < 1000000000000000) (e : LP) (d : Nat) (h : CW n e d) (R : Exit → St → Prop) : LoopOK (X50 n e d h 57) L50_6 (ha50S n l) R := by
 have hrow : ∀ a, prK (P62 n (hasF l)) 7 (a * 7 + n) = prK (P62 n (hasF l)) 7 ((a + 1) * 7) := fun a => by
   rw [Nat.succ_mul]
   exact (prK_row hn (by omega) fun j h1 h2 => by simp only [P46, P62]; simp; omega).symm
 have hbeg : ∀ a, a < n → prK (P62 n (hasF l)) 7 (a * 7) = prK (P62 n (hasF l)) 7 (a * 7 + 0) := fun a ha => (prK_row (b := 0) (by omega) (by omega) fun j h1 h2 => by simp only [P46, P62]; simp; omega).symm
 have hall : prK (P62 n (hasF l)) 7 (n * 7) = L62 n (hasF l) := prK_rows hn fun i j h => by simp only [P46, P62]; simp; omega
 refine loop_fams (X50_ok _ _ _ _ _) [0, 2, 18, 19] (fa50S n l) (xa50S n l) 250 ⟨fun (a : Nat) ha => ?_, fun (a : Nat) ha => ?_, trivial⟩
 · have hL := fun h1 R => loop50Sb n l hn hl e d h a h1 R
   have hrow := hrow a
   have hbeg := hbeg a
   refine of_eq (q := (fun (g : Prop) => (fun (f : Nat) => (fun (j : LP) => (fun (c : Int) => (fun (i : Int) => (fun (b : Int) => (fun (k : Prop) => g ∧ g ∧ g ∧ (c < b → g ∧ LoopOK (X50 n e d h (57 : Nat)) L50_8 (hb50S n l a) (bodyR (X50 n e d h (57 : Nat)).m0 (xa50S n l) R) ∧ ((∃ (y : Nat), (y ≤ n ∧ prK (P62 n (hasF l)) f (a * f + y) = []) ∧ (k ∧ l = l ∧ g ∧ c = c ∧ (0 : Int) = (y : Int) ∧ g) ∧ g) ∨ ∃ (y : Nat), y ≤ n ∧ (k ∧ l = l ∧ False ∧ c = c ∧ (0 : Int) = (y : Int) ∧ g) ∧ False) ∧ (∀ (y : Unit), j = [] → g ∧ inR .i64 i ∧ g ∧ ((∃ (y : Nat), ((y ≤ n ∧ prK (P62 n (hasF l)) f (y * f) = []) ∧ n - y < n - a) ∧ (k ∧ l = l ∧ g ∧ i = (y : Int) ∧ g) ∧ g) ∨ ∃ (y : Nat), (y ≤ n ∧ n - y < n - a) ∧ (k ∧ l = l ∧ False ∧ i = (y : Int) ∧ g) ∧ False)) ∧ (∀ (y : Unit), g → g ∧ inR .i64 i ∧ g ∧ ((∃ (y : Nat), ((y ≤ n ∧ prK (P62 n (hasF l)) f (y * f) = []) ∧ n - y < n - a) ∧ (k ∧ l = l ∧ False ∧ i = (y : Int) ∧ g) ∧ g) ∨ ∃ (y : Nat), (y ≤ n ∧ n - y < n - a) ∧ (k ∧ l = l ∧ g ∧ i = (y : Int) ∧ g) ∧ j = prK (P62 n (hasF l)) f (y * f) ∧ g)) ∧ g) ∧ (¬c < b → (∃ (y : Unit), L62 n (hasF l) = [] ∧ (k ∧ g ∧ g) ∧ g) ∨ ∃ (y : Unit), g ∧ (k ∧ False ∧ g) ∧ False)) (b = b)) ((n : Int))) (c + 1)) ((a : Int))) (prK (P62 n (hasF l)) f (a * f + n))) ((7 : Nat))) (True)) (by kernel_rfl) ?_
   simp only [zz]
   obtain ⟨a1, a2⟩ := ha
   have z0 : a < n → ∃ y : Nat, ((y ≤ n) ∧ prK (P62 n (hasF l)) 7 (a * 7 + y) = []) ∧ (0 : Int) = y := fun h => ⟨0, ⟨by omega, by rw [← hbeg h]; exact a2⟩, by omega⟩
   refine ⟨fun h1 => ⟨hL (by omega) _, z0 (by omega), fun _ h2 => ⟨in1 (by omega), a + 1, ⟨⟨by omega, by rw [← hrow]; exact h2⟩, by omega⟩, by omega⟩, fun _ _ => ⟨in1 (by omega), a + 1, ⟨by omega, by omega⟩, by omega, hrow⟩⟩, fun h1 => ?_⟩
   have e0 : a = n := by omega
   rw [← hall]; rw [e0] at a2; exact a2
 · have hL := fun h1 R => loop50Sb n l hn hl e d h a h1 R
   have hrow := hrow a
   have hbeg := hbeg a
   refine of_eq (q := (fun (g : Prop) => (fun (f : Int) => (fun (i : Int) => (fun (c : Nat) => (fun (k : LP) => (fun (j : LP) => (fun (b : Int) => (fun (m : Prop) => g ∧ g ∧ g ∧ (f < b → g ∧ LoopOK (X50 n e d h (57 : Nat)) L50_8 (hb50S n l a) (bodyR (X50 n e d h (57 : Nat)).m0 (xa50S n l) R) ∧ ((∃ (y : Nat), (y ≤ n ∧ prK (P62 n (hasF l)) c (a * c + y) = []) ∧ (m ∧ l = l ∧ False ∧ f = f ∧ (0 : Int) = (y : Int) ∧ g) ∧ g) ∨ ∃ (y : Nat), y ≤ n ∧ (m ∧ l = l ∧ g ∧ f = f ∧ (0 : Int) = (y : Int) ∧ g) ∧ k = prK (P62 n (hasF l)) c (a * c + y) ∧ g) ∧ (∀ (y : Unit), j = [] → g ∧ inR .i64 i ∧ g ∧ ((∃ (y : Nat), ((y ≤ n ∧ prK (P62 n (hasF l)) c (y * c) = []) ∧ n - y < n - a) ∧ (m ∧ l = l ∧ g ∧ i = (y : Int) ∧ g) ∧ g) ∨ ∃ (y : Nat), (y ≤ n ∧ n - y < n - a) ∧ (m ∧ l = l ∧ False ∧ i = (y : Int) ∧ g) ∧ False)) ∧ (∀ (y : Unit), g → g ∧ inR .i64 i ∧ g ∧ ((∃ (y : Nat), ((y ≤ n ∧ prK (P62 n (hasF l)) c (y * c) = []) ∧ n - y < n - a) ∧ (m ∧ l = l ∧ False ∧ i = (y : Int) ∧ g) ∧ g) ∨ ∃ (y : Nat), (y ≤ n ∧ n - y < n - a) ∧ (m ∧ l = l ∧ g ∧ i = (y : Int) ∧ g) ∧ j = prK (P62 n (hasF l)) c (y * c) ∧ g)) ∧ g) ∧ (¬f < b → (∃ (y : Unit), L62 n (hasF l) = [] ∧ (m ∧ False ∧ g) ∧ g) ∨ ∃ (y : Unit), g ∧ (m ∧ g ∧ g) ∧ k = L62 n (hasF l) ∧ g)) (b = b)) ((n : Int))) (prK (P62 n (hasF l)) c (a * c + n))) (prK (P62 n (hasF l)) c (a * c))) ((7 : Nat))) (f + 1)) ((a : Int))) (True)) (by kernel_rfl) ?_
   simp only [zz]
   have a1 : a ≤ n := ha
   refine ⟨fun h1 => ⟨hL (by omega) _, ⟨0, by omega, rfl, hbeg (by omega)⟩, fun _ h2 => ⟨in1 (by omega), a + 1, ⟨⟨by omega, by rw [← hrow]; exact h2⟩, by omega⟩, by omega⟩, fun _ _ => ⟨in1 (by omega), a + 1, ⟨by omega, by omega⟩, by omega, hrow⟩⟩, fun h1 => ?_⟩
   have e0 : a = n := by omega
   rw [← hall, e0]
def sJS (n : Nat) (e l : LP) (x y : PA) (s k : Int) (c : LP) (j : Nat) : St := ⟨(.int .i64 n :: .sl P2 e :: .sl P2 l :: dd 5 ++ .ptr 0 0 [] :: .ptr 1 0 [] :: .int .i64 s :: .int .i64 k :: .sl P2 c :: .dead :: .bool (okJ l c j) :: .own 2 0 :: .int .i64 j :: dd 105), [.bx (pa x.1 x.2), .bx (pa y.1 y.2), .sc 0 52 P2 (l ++ c.take j)]⟩
def xJS (n : Nat) (e l : LP) (x y : PA) (s k : Int) (c : LP) : List (List Nat × Ex) := [([0, 1, 2, 8, 9, 10, 11, 14, 15], ⟨4, Unit, fun _ => True, fun _ => ⟨(.int .i64 n :: .sl P2 e :: .sl P2 l :: dd 5 ++ .ptr 0 0 [] :: .ptr 1 0 [] :: .int .i64 s :: .int .i64 k :: dd 2 ++ .bool (okJ l c c.length) :: .own 2 0 :: dd 106), [.bx (pa x.1 x.2), .bx (pa y.1 y.2), .sc 0 52 P2 (l ++ c)]⟩⟩)]
def hJS (n : Nat) (e l : LP) (x y : PA) (s k : Int) (c : LP) : Hint := ⟨chk 0 [0, 1, 2, 8, 9, 10, 11, 12, 14, 15, 16] (fun j => j ≤ c.length) (sJS n e l x y s k c), (xJS n e l x y s k c).map (·.2)⟩
theorem loopJS (n : Nat) (e : LP) (d : Nat) (h : CW n e d) (l : LP) (hl : l.length ≤ 3000) (x y : PA) (s k : Int) (c : LP) (hc : c.length ≤ 49) (R : Exit → St → Prop) : LoopOK (X50 n e d h 57) L50_4 (hJS n e l x y s k c) R := by
 refine loop_ok (X50_ok _ _ _ _ _) (H := fun _ _ => none) [0, 1, 2, 8, 9, 10, 11, 12, 14, 15, 16] (fun j => j ≤ c.length) (sJS n e l x y s k c) (fun j => c.length - j) (xJS n e l x y s k c) 250 fun (j : Nat) hj => ?_
 refine of_eq (q := (fun (p : Int) => (fun (m : List Int) => (fun (i : List Int) => (fun (h : Int) => (fun (g : Nat) => (fun (f : LP) => (fun (d : Prop) => (fun (b : Prop) => (fun (a : Int × Int) => (fun (o : Prop) => b ∧ b ∧ b ∧ b ∧ ((j : Int) < (↑(List.length c) : Int) → b ∧ b ∧ d ∧ idxPre (1 : Int) (2 : Nat) ∧ b ∧ b ∧ b ∧ d ∧ idxPre (0 : Int) (2 : Nat) ∧ b ∧ b ∧ b ∧ b ∧ b ∧ b ∧ (okJ l c j = true → b ∧ b ∧ (List.length f + 1 ≤ 1000000000000000 ∧ b) ∧ b ∧ b ∧ b ∧ b ∧ b ∧ b ∧ d ∧ b ∧ b ∧ o ∧ b ∧ b ∧ inR .i64 h ∧ b ∧ ∃ (y : Nat), (y ≤ g ∧ g - y < g - j) ∧ (p = p ∧ e = e ∧ l = l ∧ b ∧ b ∧ s = s ∧ k = k ∧ c = c ∧ (!hasB f (a.snd, a.fst)) = okJ l c y ∧ b ∧ h = (y : Int) ∧ b) ∧ i = i ∧ m = m ∧ f ++ [(a.fst, a.snd)] = l ++ List.take y c ∧ b) ∧ (okJ l c j = false → b ∧ b ∧ b ∧ b ∧ b ∧ d ∧ b ∧ b ∧ o ∧ b ∧ b ∧ inR .i64 h ∧ b ∧ ∃ (y : Nat), (y ≤ g ∧ g - y < g - j) ∧ (p = p ∧ e = e ∧ l = l ∧ b ∧ b ∧ s = s ∧ k = k ∧ c = c ∧ false = okJ l c y ∧ b ∧ h = (y : Int) ∧ b) ∧ i = i ∧ m = m ∧ f ++ [(a.fst, a.snd)] = l ++ List.take y c ∧ b)) ∧ (¬(j : Int) < (↑(List.length c) : Int) → ∃ (y : Unit), b ∧ (p = p ∧ e = e ∧ l = l ∧ b ∧ b ∧ s = s ∧ k = k ∧ okJ l c j = okJ l c g ∧ b ∧ b) ∧ i = i ∧ m = m ∧ f = l ++ c ∧ b)) (sumPre (List.length f) [(a.fst, a.snd)].length (nat_lit 16))) (List.getD c j ((0 : Int), (0 : Int)))) (True)) (idxPre (j : Int) (List.length c))) (l ++ List.take j c)) (List.length c)) ((j : Int) + 1)) ([x.fst, x.snd])) ([y.fst, y.snd])) ((n : Int))) (by kernel_rfl) ?_
 simp only [zz]
 have hst : j < c.length → c.take (j + 1) = c.take j ++ [c.getD j (0, 0)] := fun h => take_getD (d := (0, 0)) h
 have hlen : (l ++ c.take j).length ≤ 3049 := by rw [List.length_append, List.length_take]; omega
 have hs := okJ_succ l c j
 refine ⟨fun h1 => ?_, fun h1 => by rw [show j = c.length by omega, List.take_length]; exact ⟨rfl, rfl⟩⟩
 have h1 : j < c.length := by omega
 have ii := idx_nat h1
 have sP : sumPre (l ++ c.take j).length [((c.getD j (0, 0)).1, (c.getD j (0, 0)).2)].length 16 := by unfold sumPre; simp only [List.length_singleton]; omega
 refine ⟨ii, i12, ii, i02, fun h2 => ⟨by omega, ii, sP, in1 (by omega), j + 1, ⟨by omega, by omega⟩, ⟨by rw [hs, h2]; rfl, by omega⟩, (List.append_assoc _ _ _).trans (by rw [hst h1])⟩, fun h2 => ⟨ii, sP, in1 (by omega), j + 1, ⟨by omega, by omega⟩, ⟨by rw [hs, h2]; rfl, by omega⟩, (List.append_assoc _ _ _).trans (by rw [hst h1])⟩⟩
def sIS (n : Nat) (e : LP) (d : Nat) (l : LP) (x : PA) (k : Nat) : St := ⟨(.int .i64 n :: .sl P2 e :: .sl P2 l :: dd 5 ++ .ptr 0 0 [] :: .ptr 1 0 [] :: .int .i64 (sm n e d l x k : Nat) :: .int .i64 k :: dd 110), [.bx (pa (xk x k).1 (xk x k).2), .bx (pa (tn x).1 (tn x).2)]⟩
def xIS (n : Nat) (e : LP) (d : Nat) (l : LP) (x : PA) : List (List Nat × Ex) := [([10], ⟨2, Unit, fun _ => True, fun _ => ⟨(dd 10 ++ .int .i64 (cnx n e d l x + cnx n e d l (tn x) : Nat) :: dd 111), []⟩⟩)]
def hIS (n : Nat) (e : LP) (d : Nat) (l : LP) (x : PA) : Hint := ⟨chk 0 [0, 1, 2, 8, 9, 10, 11] (fun k => k ≤ 2) (sIS n e d l x), (xIS n e d l x).map (·.2)⟩
theorem loopIS (n : Nat) (e : LP) (d : Nat) (h : CW n e d) (l : LP) (hl : l ≠ []) (ho : ok50 n e (d + 1) l) (x : PA) (hx : x ∈ e) (hd : dcB l x = false) (R : Exit → St → Prop) : LoopOK (X50 n e d h 57) L50_2 (hIS n e d l x) R := by
 refine loop_ok (X50_ok _ _ _ _ _) (H := fun k _ => some (hJS n e l (xk x k) (tn x) (sm n e d l x k : Nat) k (rclL n e (xk x k)))) [0, 1, 2, 8, 9, 10, 11] (fun k => k ≤ 2) (sIS n e d l x) (fun k => 2 - k) (xIS n e d l x) 300 fun (k : Nat) hk => ?_
 have hL := fun h1 h2 R => loopJS n e d h l h1 (xk x k) (tn x) (sm n e d l x k : Nat) k (rclL n e (xk x k)) h2 R
 refine of_eq (q := (fun (p : Nat) => (fun (j : Int) => (fun (o : Int) => (fun (i : Int) => (fun (g : PA) => (fun (f : Prop) => (fun (c : Int) => (fun (b : List Int) => (fun (a : LP) => (fun (m : Int) => f ∧ f ∧ (j < 2 → f ∧ f ∧ f ∧ (((((0 : Int) ≤ i ∧ i ≤ 7) ∧ List.length e < 1000000000000000) ∧ (g.fst, g.snd) ∈ L62 n (jr e)) ∧ f) ∧ f ∧ f ∧ f ∧ f ∧ f ∧ f ∧ f ∧ f ∧ f ∧ (l ≠ [] ∧ sumPre (0 : Nat) (List.length l) (nat_lit 16)) ∧ f ∧ f ∧ LoopOK (X50 n e d h (57 : Nat)) L50_4 (hJS n e l g (tn x) c j a) (bodyR (X50 n e d h (57 : Nat)).m0 (xIS n e d l x) R) ∧ (∃ (y : Nat), y ≤ List.length a ∧ (i = i ∧ e = e ∧ l = l ∧ f ∧ f ∧ c = c ∧ j = j ∧ rclL n e (g.fst, g.snd) = a ∧ true = okJ l a y ∧ f ∧ (0 : Int) = (y : Int) ∧ f) ∧ [g.fst, g.snd] = [g.fst, g.snd] ∧ b = b ∧ l = l ++ List.take y a ∧ f) ∧ (∀ (y : Unit), f → f ∧ (okJ l a (List.length a) = true → f ∧ f ∧ f ∧ f ∧ ((ok50 n e d (l ++ a) ∧ (i = i ∧ e = e ∧ l ++ a = l ++ a ∧ f) ∧ f) ∧ f) ∧ inR .i64 m ∧ f ∧ f ∧ f ∧ f ∧ inR .i64 o ∧ f ∧ ∃ (y : Nat), (y ≤ p ∧ p - y < p - k) ∧ (i = i ∧ e = e ∧ l = l ∧ f ∧ f ∧ m = (↑(sm n e d l x y) : Int) ∧ o = (y : Int) ∧ f) ∧ b = [(xk x y).fst, (xk x y).snd] ∧ b = b ∧ f) ∧ (okJ l a (List.length a) = false → f ∧ f ∧ f ∧ inR .i64 o ∧ f ∧ ∃ (y : Nat), (y ≤ p ∧ p - y < p - k) ∧ (i = i ∧ e = e ∧ l = l ∧ f ∧ f ∧ c = (↑(sm n e d l x y) : Int) ∧ o = (y : Int) ∧ f) ∧ b = [(xk x y).fst, (xk x y).snd] ∧ b = b ∧ f)) ∧ f) ∧ (¬j < 2 → ∃ (y : Unit), f ∧ (c = (↑(cnx n e d l x) : Int) + (↑(cnx n e d l (tn x)) : Int) ∧ f) ∧ f)) (c + (↑(cnC n e d (l ++ a)) : Int))) (rclL n e g)) ([(tn x).fst, (tn x).snd])) ((↑(sm n e d l x k) : Int))) (True)) (xk x k)) ((n : Int))) (j + 1)) ((k : Int))) ((2 : Nat))) (by kernel_rfl) ?_
 simp only [zz]
 obtain ⟨⟨m1, m2⟩, m3, m4⟩ := in62 ho.ge hx
 have hn := ho.ge.hn
 have hxm : xk x k ∈ L62 n (jr e) ∧ dcB (rclL n e (xk x k)) x = true := by
   unfold xk dcB hasB
   split
   · exact ⟨m1, by rw [decide_eq_true m3]; rfl⟩
   · exact ⟨m2, by rw [decide_eq_true m4]; simp⟩
 obtain ⟨hxm, hxd⟩ := hxm
 have c49 := (rcl_ok hxm).hc
 have hxx : 0 < (rclL n e (xk x k)).length := by
   cases hcc : rclL n e (xk x k) with
   | nil => rw [hcc] at hxd; cases hxd
   | cons a b => simp
 have hul := un_less (c := rclL n e (xk x k)) hx hd hxd
 have hu := ho.u
 have hl1 := ho.l
 have hd2 := ho.d22
 have hst := sm_step n e d l x k
 have hsm := sm_le n e d (by omega) l x k
 have hcx := cnx_le n e d (by omega)
 have hee : cnx n e d l (xk x k) = if okJ l (rclL n e (xk x k)) (rclL n e (xk x k)).length = true then cnC n e d (l ++ rclL n e (xk x k)) else 0 := rfl
 have hel := gr_len ho.ge
 refine ⟨fun h1 => ?_, fun h1 => ?_⟩
 · obtain ⟨s1, s2⟩ := hst (by omega)
   have cc := (hcx (l ++ rclL n e (xk x k)) x).2
   refine ⟨⟨⟨⟨by omega, by omega⟩, by omega⟩, hxm⟩, ?copy, hL (by omega) c49 _, ?beg, fun _ _ => ⟨fun h2 => ⟨⟨ho.ge, by omega, by omega, by rw [List.length_append]; omega⟩, by simp only [inR]; omega, in1 (by omega), k + 1, ⟨by omega, by omega⟩, ⟨?_, by omega⟩, by rw [s2]⟩, fun h2 => ⟨in1 (by omega), k + 1, ⟨by omega, by omega⟩, ⟨?_, by omega⟩, by rw [s2]⟩⟩⟩
   case copy => exact ⟨hl, by unfold sumPre; omega⟩
   case beg => exact ⟨0, Nat.zero_le _, ⟨rfl, rfl⟩, by simp⟩
   · rw [s1, hee, if_pos h2]; omega
   · rw [s1, hee, if_neg (by rw [h2]; decide)]; omega
 · rw [show k = 2 by omega]
   show ((cnx n e d l x + cnx n e d l (tn x) : Nat) : Int) = _
   omega
def sHS (n : Nat) (e l : LP) (i : Nat) : St := ⟨(.int .i64 n :: .sl P2 e :: .sl P2 l :: dd 4 ++ .int .i64 i :: dd 114), []⟩
def xHS (n : Nat) (e l : LP) : List (List Nat × Ex) := [([0, 2], ⟨0, Unit, fun _ => ∀ j, j < e.length → dcB l (e.getD j (0, 0)) = true, fun _ => ⟨(.int .i64 n :: .dead :: .sl P2 l :: dd 119), []⟩⟩)]
def hHS (n : Nat) (e l : LP) : Hint := ⟨chk 0 [0, 1, 2, 7] (fun i => i ≤ e.length ∧ ∀ j, j < i → dcB l (e.getD j (0, 0)) = true) (sHS n e l), (xHS n e l).map (·.2)⟩
theorem loopHS (n : Nat) (e : LP) (d : Nat) (h : CW n e d) (l : LP) (hl : l ≠ []) (ho : ok50 n e (d + 1) l) : LoopOK (X50 n e d h 57) L50_0 (hHS n e l) (RetR (X50 n e d h 57) true false [.tmp 6] [.int .i64 (cnC n e (d + 1) l : Nat)] []) := by
 refine loop_ok (X50_ok _ _ _ _ _) (H := fun i _ => some (hIS n e d l (e.getD i (0, 0)))) [0, 1, 2, 7] (fun i => i ≤ e.length ∧ ∀ j, j < i → dcB l (e.getD j (0, 0)) = true) (sHS n e l) (fun i => e.length - i) (xHS n e l) 300 fun (i : Nat) hi => ?_
 have hL := fun h1 h2 R => loopIS n e d h l hl ho (e.getD i (0, 0)) h1 h2 R
 refine of_eq (q := (fun (r : Int) => (fun (q : Int) => (fun (p : Int) => (fun (o : Cy) => (fun (k : Int) => (fun (f : Prop) => (fun (m : Prop) => (fun (a : Int × Int) => (fun (g : Int × Int) => (fun (c : Int × Int) => (fun (b : Prop) => f ∧ f ∧ f ∧ f ∧ (p < (↑(List.length e) : Int) → f ∧ f ∧ idxPre p (List.length e) ∧ f ∧ f ∧ f ∧ idxPre (1 : Int) (2 : Nat) ∧ f ∧ idxPre r (2 : Nat) ∧ f ∧ f ∧ f ∧ f ∧ f ∧ f ∧ m ∧ f ∧ (hasB l (c.fst, c.snd) = true → f ∧ b) ∧ (hasB l (c.fst, c.snd) = false → f ∧ f ∧ m ∧ f ∧ (hasB l (c.snd, c.fst) = true → b) ∧ (hasB l (c.snd, c.fst) = false → f ∧ f ∧ LoopOK o L50_2 (hIS n e d l g) (bodyR o.m0 (xHS n e l) (RetR o true false [ResultVar.tmp (6 : Tmp)] [AV.int .i64 q] [])) ∧ (∃ (y : Nat), y ≤ 2 ∧ (k = k ∧ e = e ∧ l = l ∧ f ∧ f ∧ r = (↑(sm n e d l g y) : Int) ∧ r = (y : Int) ∧ f) ∧ [c.fst, c.snd] = [(xk g y).fst, (xk g y).snd] ∧ [c.snd, c.fst] = [(tn g).fst, (tn g).snd] ∧ f) ∧ (∀ (y : Unit), f → f ∧ f ∧ f ∧ ((↑(cnx n e d l g) : Int) + (↑(cnx n e d l (tn g)) : Int) = q ∧ f) ∧ f) ∧ f))) ∧ (¬p < (↑(List.length e) : Int) → ∃ (y : Unit), (∀ (j : Nat), j < List.length e → dcB l (List.getD e j a) = true) ∧ (k = k ∧ l = l ∧ f) ∧ f)) (f ∧ inR .i64 (p + 1) ∧ f ∧ ∃ (y : Nat), ((y ≤ List.length e ∧ ∀ (j : Nat), j < y → dcB l (List.getD e j a) = true) ∧ List.length e - y < List.length e - i) ∧ (k = k ∧ e = e ∧ l = l ∧ p + 1 = (y : Int) ∧ f) ∧ f)) (List.getD e i a)) (List.getD e i a)) ((r, r))) (List.length l + 1 ≤ 1000000000000000 ∧ f)) (True)) ((n : Int))) (X50 n e d h (57 : Nat))) ((i : Int))) ((↑(cnC n e (d + 1) l) : Int))) ((0 : Int))) (by kernel_rfl) ?_
 simp only [zz]
 obtain ⟨i1, i2⟩ := hi
 have hl1 := ho.l
 have hel := gr_len ho.ge
 refine ⟨fun h1 => ?_, fun h1 => by rw [show i = e.length by omega] at i2; exact i2⟩
 have h1 : i < e.length := by omega
 have ii := idx_nat h1
 have nx : dcB l (e.getD i (0, 0)) = true → inR .i64 ((i : Int) + 1) ∧ ∃ y : Nat, ((y ≤ e.length ∧ ∀ j, j < y → dcB l (e.getD j (0, 0)) = true) ∧ e.length - y < e.length - i) ∧ (i : Int) + 1 = y := fun h => ⟨by simp only [inR]; omega, i + 1, ⟨⟨by omega, fun j hj => by
   by_cases e1 : j = i
   · rw [e1]; exact h
   · exact i2 j (by omega)⟩, by omega⟩, by omega⟩
 refine ⟨ii, i12, i02, by omega, fun h2 => nx (by unfold dcB; rw [show hasB l (e.getD i (0, 0)) = true from h2]; rfl), fun h2 => ⟨by omega, fun h3 => nx (by unfold dcB; rw [show hasB l (tn (e.getD i (0, 0))) = true from h3]; simp), fun h3 => ?_⟩⟩
 have hd : dcB l (e.getD i (0, 0)) = false := by
   unfold dcB
   rw [show hasB l (e.getD i (0, 0)) = false from h2, show hasB l (tn (e.getD i (0, 0))) = false from h3]; try rfl
 have hf : (e.find? fun x => !dcB l x) = some (e.getD i (0, 0)) := find_at h1 (fun j hj => by rw [i2 j hj]; rfl) (by rw [hd]; rfl)
 refine ⟨hL (mem_getD h1) hd _, ⟨0, by omega, ⟨rfl, rfl⟩, rfl, rfl⟩, fun _ _ => ?_⟩
 rw [cnC_some hf]; omega
theorem call50S (n : Nat) (e : LP) (d : Nat) (h : CW n e d) (l : LP) (hl : l ≠ []) (ho : ok50 n e (d + 1) l) : GCall Try.prog gl 50 true [.int .i64 n, .sl P2 e, .sl P2 l] [] [.int .i64 (cnC n e (d + 1) l : Nat)] [] := by
 refine gcall_of (X := (X50 n e d h 57)) ((X50_ok _ _ _ _ _)) (f := 50) (fn := Try.f50) (c := bodyOf Try.f50) (by kernel_rfl) (by kernel_rfl) (view := false) (rvs := [.tmp 6]) (by kernel_rfl) (H := (fun id => if id = 0 then some (hHS n e l) else some (ha50S n l))) 200 (by kernel_rfl) ?_
 have hL := loopHS n e d h l hl ho
 have hn : n ≤ 7 := by have := ho.ge.hn; omega
 have hl2 : l.length < 1000000000000000 := by have := ho.l; omega
 have hM := fun R => loop50Sa n l hn hl2 e d h (R := R)
 refine of_eq (q := (fun (i : Int) => (fun (g : Int) => (fun (f : LP) => (fun (c : Cy) => (fun (b : Prop) => (fun (a : Int) => (fun (m : Prop) => (fun (k : Prop) => b ∧ b ∧ LoopOK c L50_0 (hHS n e l) (RetR c true false [ResultVar.tmp (6 : Tmp)] [AV.int .i64 a] []) ∧ (∃ (y : Nat), (y ≤ List.length e ∧ ∀ (j : Nat), j < y → dcB l (List.getD e j (i, i)) = true) ∧ (g = g ∧ e = e ∧ l = l ∧ i = (y : Int) ∧ b) ∧ b) ∧ (∀ (y : Unit), (∀ (j : Nat), j < List.length e → dcB l (List.getD e j (i, i)) = true) → b ∧ b ∧ LoopOK c L50_6 (ha50S n l) (RetR c true false [ResultVar.tmp (6 : Tmp)] [AV.int .i64 a] []) ∧ ((∃ (y : Nat), (y ≤ n ∧ prK (P62 n (hasF l)) (7 : Nat) (y * 7) = []) ∧ (g = g ∧ l = l ∧ b ∧ i = (y : Int) ∧ b) ∧ b) ∨ ∃ (y : Nat), y ≤ n ∧ (g = g ∧ l = l ∧ False ∧ i = (y : Int) ∧ b) ∧ False) ∧ (∀ (y : Unit), f = [] → b ∧ b ∧ ((1 : Nat) ≤ 1000000000000000 ∧ b) ∧ (true = true → k) ∧ (true = false → m)) ∧ (∀ (y : Unit), b → b ∧ b ∧ (List.length f + 1 ≤ 1000000000000000 ∧ b) ∧ (ioB g f = true → k) ∧ (ioB g f = false → m)) ∧ b) ∧ b) (b ∧ b ∧ ((1 : Int) = a ∧ b) ∧ b)) (b ∧ b ∧ (i = a ∧ b) ∧ b)) ((↑(cnC n e (d + 1) l) : Int))) (True)) (X50 n e d h (57 : Nat))) (L62 n (hasF l))) ((n : Int))) ((0 : Int))) (by kernel_rfl) ?_
 simp only [zz]
 refine ⟨hL, ⟨0, ⟨Nat.zero_le _, fun j hj => absurd hj (Nat.not_lt_zero _)⟩, rfl⟩, fun _ h0 => ⟨hM _, ⟨0, ⟨Nat.zero_le _, rfl⟩, rfl⟩, ?_, ?_⟩⟩
 · intro _ h1
   have hc := cnC_none (n := n) (d := d) (find_no (p := fun x => !dcB l x) fun j hj => by rw [h0 j hj]; rfl)
   rw [h1, if_pos (io_nil _)] at hc
   exact ⟨by omega, fun _ => by omega, fun h => by cases h⟩
 · intro _ _
   have hc := cnC_none (n := n) (d := d) (find_no (p := fun x => !dcB l x) fun j hj => by rw [h0 j hj]; rfl)
   have h49 : (L62 n (hasF l)).length ≤ 49 := prK_len _ 7 49
   exact ⟨by omega, fun h => by rw [hc, if_pos h]; rfl, fun h => by rw [hc, if_neg (by rw [h]; decide)]; rfl⟩
def az50N (n : Nat) (l : LP) (a : Nat) : St := ⟨(.int .i64 n :: .dead :: .sl P2 l :: dd 15 ++ nl :: .int .i64 a :: dd 102), []⟩
def at50N (n : Nat) (l : LP) (a : Nat) (r : LP) : St := ⟨(.int .i64 n :: .dead :: .sl P2 l :: dd 15 ++ .own 0 0 :: .int .i64 a :: dd 102), [.sc 0 52 P2 r]⟩
def bz50N (n : Nat) (l : LP) (a b : Nat) : St := ⟨(.int .i64 n :: .dead :: .sl P2 l :: dd 15 ++ nl :: .int .i64 a :: .int .i64 b :: dd 101), []⟩
def bt50N (n : Nat) (l : LP) (a : Nat) (r : LP) (b : Nat) : St := ⟨(.int .i64 n :: .dead :: .sl P2 l :: dd 15 ++ .own 0 0 :: .int .i64 a :: .int .i64 b :: dd 101), [.sc 0 52 P2 r]⟩
def fb50N (n : Nat) (l : LP) (a : Nat) : List Fam := [⟨Nat, fun b => b ≤ n ∧ prK (P62 n (hasF l)) 7 (a * 7 + b) = [], bz50N n l a, fun b => n - b, fun _ _ => none⟩, ⟨Nat, fun b => b ≤ n, fun b => bt50N n l a (prK (P62 n (hasF l)) 7 (a * 7 + b)) b, fun b => n - b, fun _ _ => none⟩]
def xb50N (n : Nat) (l : LP) (a : Nat) : List (List Nat × Ex) := [([0, 2, 18, 19], ⟨8, Unit, fun _ => prK (P62 n (hasF l)) 7 (a * 7 + n) = [], fun _ => az50N n l a⟩), ([0, 2, 18, 19], ⟨8, Unit, fun _ => True, fun _ => at50N n l a (prK (P62 n (hasF l)) 7 (a * 7 + n))⟩)]
def hb50N (n : Nat) (l : LP) (a : Nat) : Hint := ⟨chks 0 [0, 2, 18, 19, 20] (fb50N n l a), (xb50N n l a).map (·.2)⟩
theorem loop50Nb (n : Nat) (l : LP) (hn : n ≤ 7) (hl : l.length < 1000000000000000) (e : LP) (d : Nat) (h : CW n e d) (a : Nat) (ha : a < n) (R : Exit → St → Prop) : LoopOK (X50 n e d h 1000057) L50_8 (hb50N n l a) R := by
 have hP : ∀ b, b < n → (P62 n (hasF l)) a b = hasB l ((a : Int), (b : Int)) := fun b h1 => by
   have hab := decide_eq_true ha
   have hbn := decide_eq_true h1
   simp only [P46, P62, hasF, hab, hbn, Bool.true_and]
 refine loop_fams (X50_ok _ _ _ _ _) [0, 2, 18, 19, 20] (fb50N n l a) (xb50N n l a) 250 ⟨fun (b : Nat) hb => ?_, fun (b : Nat) hb => ?_, trivial⟩
 · refine of_eq (q := (fun (h : Nat) => (fun (f : Prop) => (fun (e : Int) => (fun (g : Int) => (fun (d : Int) => (fun (c : Int) => f ∧ f ∧ f ∧ (e < d → f ∧ f ∧ f ∧ f ∧ (List.length l + 1 ≤ 1000000000000000 ∧ f) ∧ (hasB l (c, e) = true → f ∧ f ∧ f ∧ f ∧ f ∧ sumPre (0 : Nat) [(c, e)].length (nat_lit 16) ∧ f ∧ f ∧ inR .i64 g ∧ f ∧ ((∃ (y : Nat), ((y ≤ n ∧ prK (P62 n (hasF l)) h (a * h + y) = []) ∧ n - y < n - b) ∧ (d = d ∧ l = l ∧ False ∧ c = c ∧ g = (y : Int) ∧ f) ∧ f) ∨ ∃ (y : Nat), (y ≤ n ∧ n - y < n - b) ∧ (d = d ∧ l = l ∧ f ∧ c = c ∧ g = (y : Int) ∧ f) ∧ [(c, e)] = prK (P62 n (hasF l)) h (a * h + y) ∧ f)) ∧ (hasB l (c, e) = false → f ∧ inR .i64 g ∧ f ∧ ((∃ (y : Nat), ((y ≤ n ∧ prK (P62 n (hasF l)) h (a * h + y) = []) ∧ n - y < n - b) ∧ (d = d ∧ l = l ∧ f ∧ c = c ∧ g = (y : Int) ∧ f) ∧ f) ∨ ∃ (y : Nat), (y ≤ n ∧ n - y < n - b) ∧ (d = d ∧ l = l ∧ False ∧ c = c ∧ g = (y : Int) ∧ f) ∧ False))) ∧ (¬e < d → (∃ (y : Unit), prK (P62 n (hasF l)) h (a * h + n) = [] ∧ (d = d ∧ l = l ∧ f ∧ c = c ∧ f) ∧ f) ∨ ∃ (y : Unit), f ∧ (d = d ∧ l = l ∧ False ∧ c = c ∧ f) ∧ False)) ((a : Int))) ((n : Int))) (e + 1)) ((b : Int))) (True)) ((7 : Nat))) (by kernel_rfl) ?_
   simp only [zz]
   obtain ⟨b1, b2⟩ := hb
   refine ⟨fun h1 => ?_, fun h1 => by rwa [show b = n by omega] at b2⟩
   have h1 : b < n := by omega
   have hst := prK_step (P := P62 n (hasF l)) (i := a) (j := b) (w := 7) (by omega)
   rw [hP b h1] at hst
   have yes : hasB l ((a : Int), (b : Int)) = true → ∃ y : Nat, ((y ≤ n) ∧ n - y < n - b) ∧ (b : Int) + 1 = y ∧ [((a : Int), (b : Int))] = prK (P62 n (hasF l)) 7 (a * 7 + y) := fun h => ⟨b + 1, ⟨by omega, by omega⟩, by omega, by rw [hst, if_pos h, b2]; rfl⟩
   have no : hasB l ((a : Int), (b : Int)) = false → ∃ y : Nat, (((y ≤ n) ∧ prK (P62 n (hasF l)) 7 (a * 7 + y) = []) ∧ n - y < n - b) ∧ (b : Int) + 1 = y := fun h => ⟨b + 1, ⟨⟨by omega, by rw [hst, if_neg (by rw [h]; decide)]; exact b2⟩, by omega⟩, by omega⟩
   have iR := in1 (i := b) (by omega)
   have sP : sumPre 0 [((a : Int), (b : Int))].length 16 := by simp [sumPre]
   clear hst hP b2
   have he1 : l.length + 1 ≤ 1000000000000000 := by omega
   (repeat' first | with_reducible exact trivial | with_reducible apply And.intro | intro _)
   all_goals first | exact iR | exact sP | assumption | exact yes (by clear yes no; simp_all [Int.ofNat_inj]) | exact no (by clear yes no; simp_all [Int.ofNat_inj])
 · refine of_eq (q := (fun (i : Nat) => (fun (j : LP) => (fun (h : Prop) => (fun (g : Int) => (fun (k : Int) => (fun (f : Int) => (fun (e : Int) => (fun (d : LP) => (fun (c : Prop) => h ∧ h ∧ h ∧ (g < f → h ∧ h ∧ h ∧ h ∧ (List.length l + 1 ≤ 1000000000000000 ∧ h) ∧ (hasB l (e, g) = true → h ∧ h ∧ h ∧ h ∧ h ∧ sumPre (List.length d) [(e, g)].length (nat_lit 16) ∧ h ∧ h ∧ inR .i64 k ∧ h ∧ (c ∨ ∃ (y : Nat), (y ≤ n ∧ n - y < n - b) ∧ (f = f ∧ l = l ∧ h ∧ e = e ∧ k = (y : Int) ∧ h) ∧ d ++ [(e, g)] = prK (P62 n (hasF l)) i (a * i + y) ∧ h)) ∧ (hasB l (e, g) = false → h ∧ inR .i64 k ∧ h ∧ (c ∨ ∃ (y : Nat), (y ≤ n ∧ n - y < n - b) ∧ (f = f ∧ l = l ∧ h ∧ e = e ∧ k = (y : Int) ∧ h) ∧ d = prK (P62 n (hasF l)) i (a * i + y) ∧ h))) ∧ (¬g < f → (∃ (y : Unit), j = [] ∧ (f = f ∧ l = l ∧ False ∧ e = e ∧ h) ∧ h) ∨ ∃ (y : Unit), h ∧ (f = f ∧ l = l ∧ h ∧ e = e ∧ h) ∧ d = j ∧ h)) (∃ (y : Nat), ((y ≤ n ∧ prK (P62 n (hasF l)) i (a * i + y) = []) ∧ n - y < n - b) ∧ (f = f ∧ l = l ∧ False ∧ e = e ∧ k = (y : Int) ∧ h) ∧ h)) (prK (P62 n (hasF l)) i (a * i + b))) ((a : Int))) ((n : Int))) (g + 1)) ((b : Int))) (True)) (prK (P62 n (hasF l)) i (a * i + n))) ((7 : Nat))) (by kernel_rfl) ?_
   simp only [zz]
   have b1 : b ≤ n := hb
   have hlen := prK_len (P62 n (hasF l)) 7 (a * 7 + b)
   refine ⟨fun h1 => ?_, fun h1 => by rw [show b = n by omega]⟩
   have h1 : b < n := by omega
   have hst := prK_step (P := P62 n (hasF l)) (i := a) (j := b) (w := 7) (by omega)
   rw [hP b h1] at hst
   have yes : hasB l ((a : Int), (b : Int)) = true → ∃ y : Nat, ((y ≤ n) ∧ n - y < n - b) ∧ (b : Int) + 1 = y ∧ prK (P62 n (hasF l)) 7 (a * 7 + b) ++ [((a : Int), (b : Int))] = prK (P62 n (hasF l)) 7 (a * 7 + y) := fun h => ⟨b + 1, ⟨by omega, by omega⟩, by omega, by rw [hst, if_pos h]⟩
   have no : hasB l ((a : Int), (b : Int)) = false → ∃ y : Nat, ((y ≤ n) ∧ n - y < n - b) ∧ (b : Int) + 1 = y ∧ prK (P62 n (hasF l)) 7 (a * 7 + b) = prK (P62 n (hasF l)) 7 (a * 7 + y) := fun h => ⟨b + 1, ⟨by omega, by omega⟩, by omega, by rw [hst, if_neg (by rw [h]; decide)]⟩
   have iR := in1 (i := b) (by omega)
   have sP : sumPre (prK (P62 n (hasF l)) 7 (a * 7 + b)).length [((a : Int), (b : Int))].length 16 := by unfold sumPre; simp; omega
   clear hst hP
   have he1 : l.length + 1 ≤ 1000000000000000 := by omega
   (repeat' first | with_reducible exact trivial | with_reducible apply And.intro | intro _)
   all_goals first | exact iR | exact sP | assumption | exact yes (by clear yes no; simp_all [Int.ofNat_inj]) | exact no (by clear yes no; simp_all [Int.ofNat_inj])
def fa50N (n : Nat) (l : LP) : List Fam := [⟨Nat, fun a => a ≤ n ∧ prK (P62 n (hasF l)) 7 (a * 7) = [], az50N n l, fun a => n - a, fun a _ => some (hb50N n l a)⟩, ⟨Nat, fun a => a ≤ n, fun a => at50N n l a (prK (P62 n (hasF l)) 7 (a * 7)), fun a => n - a, fun a _ => some (hb50N n l a)⟩]
def xa50N (n : Nat) (l : LP) : List (List Nat × Ex) := [([0, 18], ⟨6, Unit, fun _ => L62 n (hasF l) = [], fun _ => ⟨(.int .i64 n :: dd 17 ++ nl :: dd 103), []⟩⟩), ([0, 18], ⟨6, Unit, fun _ => True, fun _ => ⟨(.int .i64 n :: dd 17 ++ .own 0 0 :: dd 103), [.sc 0 52 P2 (L62 n (hasF l))]⟩⟩)]
def ha50N (n : Nat) (l : LP) : Hint := ⟨chks 0 [0, 2, 18, 19] (fa50N n l), (xa50N n l).map (·.2)⟩
theorem loop50Na (n : Nat) (l : LP) (hn : n ≤ 7) (hl : l.length < 1000000000000000) (e : LP) (d : Nat) (h : CW n e d) (R : Exit → St → Prop) : LoopOK (X50 n e d h 1000057) L50_6 (ha50N n l) R := by
 have hrow : ∀ a, prK (P62 n (hasF l)) 7 (a * 7 + n) = prK (P62 n (hasF l)) 7 ((a + 1) * 7) := fun a => by
   rw [Nat.succ_mul]
   exact (prK_row hn (by omega) fun j h1 h2 => by simp only [P46, P62]; simp; omega).symm
 have hbeg : ∀ a, a < n → prK (P62 n (hasF l)) 7 (a * 7) = prK (P62 n (hasF l)) 7 (a * 7 + 0) := fun a ha => (prK_row (b := 0) (by omega) (by omega) fun j h1 h2 => by simp only [P46, P62]; simp; omega).symm
 have hall : prK (P62 n (hasF l)) 7 (n * 7) = L62 n (hasF l) := prK_rows hn fun i j h => by simp only [P46, P62]; simp; omega
 refine loop_fams (X50_ok _ _ _ _ _) [0, 2, 18, 19] (fa50N n l) (xa50N n l) 250 ⟨fun (a : Nat) ha => ?_, fun (a : Nat) ha => ?_, trivial⟩
 · have hL := fun h1 R => loop50Nb n l hn hl e d h a h1 R
   have hrow := hrow a
   have hbeg := hbeg a
   refine of_eq (q := (fun (g : Prop) => (fun (f : Nat) => (fun (j : LP) => (fun (c : Int) => (fun (i : Int) => (fun (b : Int) => (fun (k : Prop) => g ∧ g ∧ g ∧ (c < b → g ∧ LoopOK (X50 n e d h (1000057 : Nat)) L50_8 (hb50N n l a) (bodyR (X50 n e d h (1000057 : Nat)).m0 (xa50N n l) R) ∧ ((∃ (y : Nat), (y ≤ n ∧ prK (P62 n (hasF l)) f (a * f + y) = []) ∧ (k ∧ l = l ∧ g ∧ c = c ∧ (0 : Int) = (y : Int) ∧ g) ∧ g) ∨ ∃ (y : Nat), y ≤ n ∧ (k ∧ l = l ∧ False ∧ c = c ∧ (0 : Int) = (y : Int) ∧ g) ∧ False) ∧ (∀ (y : Unit), j = [] → g ∧ inR .i64 i ∧ g ∧ ((∃ (y : Nat), ((y ≤ n ∧ prK (P62 n (hasF l)) f (y * f) = []) ∧ n - y < n - a) ∧ (k ∧ l = l ∧ g ∧ i = (y : Int) ∧ g) ∧ g) ∨ ∃ (y : Nat), (y ≤ n ∧ n - y < n - a) ∧ (k ∧ l = l ∧ False ∧ i = (y : Int) ∧ g) ∧ False)) ∧ (∀ (y : Unit), g → g ∧ inR .i64 i ∧ g ∧ ((∃ (y : Nat), ((y ≤ n ∧ prK (P62 n (hasF l)) f (y * f) = []) ∧ n - y < n - a) ∧ (k ∧ l = l ∧ False ∧ i = (y : Int) ∧ g) ∧ g) ∨ ∃ (y : Nat), (y ≤ n ∧ n - y < n - a) ∧ (k ∧ l = l ∧ g ∧ i = (y : Int) ∧ g) ∧ j = prK (P62 n (hasF l)) f (y * f) ∧ g)) ∧ g) ∧ (¬c < b → (∃ (y : Unit), L62 n (hasF l) = [] ∧ (k ∧ g ∧ g) ∧ g) ∨ ∃ (y : Unit), g ∧ (k ∧ False ∧ g) ∧ False)) (b = b)) ((n : Int))) (c + 1)) ((a : Int))) (prK (P62 n (hasF l)) f (a * f + n))) ((7 : Nat))) (True)) (by kernel_rfl) ?_
   simp only [zz]
   obtain ⟨a1, a2⟩ := ha
   have z0 : a < n → ∃ y : Nat, ((y ≤ n) ∧ prK (P62 n (hasF l)) 7 (a * 7 + y) = []) ∧ (0 : Int) = y := fun h => ⟨0, ⟨by omega, by rw [← hbeg h]; exact a2⟩, by omega⟩
   refine ⟨fun h1 => ⟨hL (by omega) _, z0 (by omega), fun _ h2 => ⟨in1 (by omega), a + 1, ⟨⟨by omega, by rw [← hrow]; exact h2⟩, by omega⟩, by omega⟩, fun _ _ => ⟨in1 (by omega), a + 1, ⟨by omega, by omega⟩, by omega, hrow⟩⟩, fun h1 => ?_⟩
   have e0 : a = n := by omega
   rw [← hall]; rw [e0] at a2; exact a2
 · have hL := fun h1 R => loop50Nb n l hn hl e d h a h1 R
   have hrow := hrow a
   have hbeg := hbeg a
   refine of_eq (q := (fun (g : Prop) => (fun (f : Int) => (fun (i : Int) => (fun (c : Nat) => (fun (k : LP) => (fun (j : LP) => (fun (b : Int) => (fun (m : Prop) => g ∧ g ∧ g ∧ (f < b → g ∧ LoopOK (X50 n e d h (1000057 : Nat)) L50_8 (hb50N n l a) (bodyR (X50 n e d h (1000057 : Nat)).m0 (xa50N n l) R) ∧ ((∃ (y : Nat), (y ≤ n ∧ prK (P62 n (hasF l)) c (a * c + y) = []) ∧ (m ∧ l = l ∧ False ∧ f = f ∧ (0 : Int) = (y : Int) ∧ g) ∧ g) ∨ ∃ (y : Nat), y ≤ n ∧ (m ∧ l = l ∧ g ∧ f = f ∧ (0 : Int) = (y : Int) ∧ g) ∧ k = prK (P62 n (hasF l)) c (a * c + y) ∧ g) ∧ (∀ (y : Unit), j = [] → g ∧ inR .i64 i ∧ g ∧ ((∃ (y : Nat), ((y ≤ n ∧ prK (P62 n (hasF l)) c (y * c) = []) ∧ n - y < n - a) ∧ (m ∧ l = l ∧ g ∧ i = (y : Int) ∧ g) ∧ g) ∨ ∃ (y : Nat), (y ≤ n ∧ n - y < n - a) ∧ (m ∧ l = l ∧ False ∧ i = (y : Int) ∧ g) ∧ False)) ∧ (∀ (y : Unit), g → g ∧ inR .i64 i ∧ g ∧ ((∃ (y : Nat), ((y ≤ n ∧ prK (P62 n (hasF l)) c (y * c) = []) ∧ n - y < n - a) ∧ (m ∧ l = l ∧ False ∧ i = (y : Int) ∧ g) ∧ g) ∨ ∃ (y : Nat), (y ≤ n ∧ n - y < n - a) ∧ (m ∧ l = l ∧ g ∧ i = (y : Int) ∧ g) ∧ j = prK (P62 n (hasF l)) c (y * c) ∧ g)) ∧ g) ∧ (¬f < b → (∃ (y : Unit), L62 n (hasF l) = [] ∧ (m ∧ False ∧ g) ∧ g) ∨ ∃ (y : Unit), g ∧ (m ∧ g ∧ g) ∧ k = L62 n (hasF l) ∧ g)) (b = b)) ((n : Int))) (prK (P62 n (hasF l)) c (a * c + n))) (prK (P62 n (hasF l)) c (a * c))) ((7 : Nat))) (f + 1)) ((a : Int))) (True)) (by kernel_rfl) ?_
   simp only [zz]
   have a1 : a ≤ n := ha
   refine ⟨fun h1 => ⟨hL (by omega) _, ⟨0, by omega, rfl, hbeg (by omega)⟩, fun _ h2 => ⟨in1 (by omega), a + 1, ⟨⟨by omega, by rw [← hrow]; exact h2⟩, by omega⟩, by omega⟩, fun _ _ => ⟨in1 (by omega), a + 1, ⟨by omega, by omega⟩, by omega, hrow⟩⟩, fun h1 => ?_⟩
   have e0 : a = n := by omega
   rw [← hall, e0]
def sJ0 (n : Nat) (e l : LP) (x y : PA) (s k : Int) (c : LP) (j : Nat) : St := ⟨(.int .i64 n :: .sl P2 e :: .sl P2 l :: dd 5 ++ .ptr 0 0 [] :: .ptr 1 0 [] :: .int .i64 s :: .int .i64 k :: .sl P2 c :: .dead :: .tt :: nl :: .int .i64 j :: dd 105), [.bx (pa x.1 x.2), .bx (pa y.1 y.2)]⟩
def fJN (n : Nat) (e l : LP) (x y : PA) (s k : Int) (c : LP) : List Fam := [⟨Nat, fun j => j = 0, sJ0 n e l x y s k c, fun j => c.length - j, fun _ _ => none⟩, ⟨Nat, fun j => 1 ≤ j ∧ j ≤ c.length, sJS n e l x y s k c, fun j => c.length - j, fun _ _ => none⟩]
def hJN (n : Nat) (e l : LP) (x y : PA) (s k : Int) (c : LP) : Hint := ⟨chks 0 [0, 1, 2, 8, 9, 10, 11, 12, 14, 15, 16] (fJN n e l x y s k c), (xJS n e l x y s k c).map (·.2)⟩
theorem loopJN (n : Nat) (e : LP) (d : Nat) (h : CW n e d) (l : LP) (hl0 : l = []) (hl : l.length ≤ 3000) (x y : PA) (s k : Int) (c : LP) (hc0 : 0 < c.length) (hc : c.length ≤ 49) (R : Exit → St → Prop) : LoopOK (X50 n e d h 1000057) L50_4 (hJN n e l x y s k c) R := by
 have hst : ∀ j, j < c.length → c.take (j + 1) = c.take j ++ [c.getD j (0, 0)] := fun j h => take_getD (d := (0, 0)) h
 refine loop_fams (X50_ok _ _ _ _ _) [0, 1, 2, 8, 9, 10, 11, 12, 14, 15, 16] (fJN n e l x y s k c) (xJS n e l x y s k c) 250 ⟨fun (j : Nat) hj => ?_, fun (j : Nat) hj => ?_, trivial⟩
 · refine of_eq (q := (fun (i : Int) => (fun (h : Nat) => (fun (g : List Int) => (fun (f : List Int) => (fun (d : Int) => (fun (m : Prop) => (fun (b : Prop) => (fun (a : Int × Int) => b ∧ b ∧ b ∧ b ∧ (d < (↑(List.length c) : Int) → b ∧ b ∧ m ∧ idxPre (1 : Int) (2 : Nat) ∧ b ∧ b ∧ b ∧ m ∧ idxPre (0 : Int) (2 : Nat) ∧ b ∧ b ∧ b ∧ b ∧ b ∧ b ∧ b ∧ b ∧ ((1 : Nat) ≤ 1000000000000000 ∧ b) ∧ b ∧ b ∧ b ∧ b ∧ b ∧ b ∧ m ∧ b ∧ b ∧ sumPre (0 : Nat) [(a.fst, a.snd)].length (nat_lit 16) ∧ b ∧ b ∧ inR .i64 (d + 1) ∧ b ∧ ((∃ (y : Nat), (y = 0 ∧ h - y < h - j) ∧ (i = i ∧ e = e ∧ l = l ∧ b ∧ b ∧ s = s ∧ k = k ∧ c = c ∧ true = true ∧ False ∧ d + 1 = (y : Int) ∧ b) ∧ g = g ∧ f = f ∧ b) ∨ ∃ (y : Nat), (((1 : Nat) ≤ y ∧ y ≤ h) ∧ h - y < h - j) ∧ (i = i ∧ e = e ∧ l = l ∧ b ∧ b ∧ s = s ∧ k = k ∧ c = c ∧ (!hasB [] (a.snd, a.fst)) = okJ l c y ∧ b ∧ d + 1 = (y : Int) ∧ b) ∧ g = g ∧ f = f ∧ [(a.fst, a.snd)] = l ++ List.take y c ∧ b)) ∧ (¬d < (↑(List.length c) : Int) → ∃ (y : Unit), b ∧ (i = i ∧ e = e ∧ l = l ∧ b ∧ b ∧ s = s ∧ k = k ∧ true = okJ l c h ∧ False ∧ b) ∧ g = g ∧ f = f ∧ False)) (List.getD c j ((0 : Int), (0 : Int)))) (True)) (idxPre d (List.length c))) ((j : Int))) ([y.fst, y.snd])) ([x.fst, x.snd])) (List.length c)) ((n : Int))) (by kernel_rfl) ?_
   simp only [zz]
   have j0 : j = 0 := hj
   subst j0
   subst hl0
   have ii := idx_nat hc0
   have hs := okJ_succ [] c 0
   refine ⟨fun _ => ⟨ii, i12, ii, i02, by omega, ii, by simp [sumPre], in1 (by omega), 1, ⟨by omega, by omega⟩, ⟨hs.symm, by omega⟩, (hst 0 hc0).symm⟩, fun h1 => absurd h1 (by omega)⟩
 · have hlen : (l ++ c.take j).length ≤ 3049 := by rw [List.length_append, List.length_take]; omega
   have hs := okJ_succ l c j
   refine of_eq (q := (fun (m : Int) => (fun (i : LP) => (fun (h : Prop) => (fun (g : Prop) => (fun (f : Int) => (fun (p : Int) => (fun (o : Prop) => (fun (d : Nat) => (fun (b : Prop) => (fun (a : Int × Int) => (fun (r : Bool) => (fun (q : Prop) => b ∧ b ∧ b ∧ b ∧ (f < (↑(List.length c) : Int) → b ∧ b ∧ o ∧ idxPre (1 : Int) (2 : Nat) ∧ b ∧ b ∧ b ∧ o ∧ idxPre (0 : Int) (2 : Nat) ∧ b ∧ b ∧ b ∧ b ∧ b ∧ b ∧ (okJ l c j = true → b ∧ b ∧ (List.length i + 1 ≤ 1000000000000000 ∧ b) ∧ b ∧ b ∧ b ∧ b ∧ b ∧ b ∧ o ∧ b ∧ b ∧ q ∧ b ∧ b ∧ inR .i64 p ∧ b ∧ ((∃ (y : Nat), (y = 0 ∧ d - y < d - j) ∧ (m = m ∧ e = e ∧ l = l ∧ b ∧ b ∧ s = s ∧ k = k ∧ c = c ∧ r = true ∧ False ∧ p = (y : Int) ∧ b) ∧ g ∧ h ∧ b) ∨ ∃ (y : Nat), (((1 : Nat) ≤ y ∧ y ≤ d) ∧ d - y < d - j) ∧ (m = m ∧ e = e ∧ l = l ∧ b ∧ b ∧ s = s ∧ k = k ∧ c = c ∧ r = okJ l c y ∧ b ∧ p = (y : Int) ∧ b) ∧ g ∧ h ∧ i ++ [(a.fst, a.snd)] = l ++ List.take y c ∧ b)) ∧ (okJ l c j = false → b ∧ b ∧ b ∧ b ∧ b ∧ o ∧ b ∧ b ∧ q ∧ b ∧ b ∧ inR .i64 p ∧ b ∧ ((∃ (y : Nat), (y = 0 ∧ d - y < d - j) ∧ (m = m ∧ e = e ∧ l = l ∧ b ∧ b ∧ s = s ∧ k = k ∧ c = c ∧ false = true ∧ False ∧ p = (y : Int) ∧ b) ∧ g ∧ h ∧ b) ∨ ∃ (y : Nat), (((1 : Nat) ≤ y ∧ y ≤ d) ∧ d - y < d - j) ∧ (m = m ∧ e = e ∧ l = l ∧ b ∧ b ∧ s = s ∧ k = k ∧ c = c ∧ false = okJ l c y ∧ b ∧ p = (y : Int) ∧ b) ∧ g ∧ h ∧ i ++ [(a.fst, a.snd)] = l ++ List.take y c ∧ b))) ∧ (¬f < (↑(List.length c) : Int) → ∃ (y : Unit), b ∧ (m = m ∧ e = e ∧ l = l ∧ b ∧ b ∧ s = s ∧ k = k ∧ okJ l c j = okJ l c d ∧ b ∧ b) ∧ g ∧ h ∧ i = l ++ c ∧ b)) (sumPre (List.length i) [(a.fst, a.snd)].length (nat_lit 16))) (!hasB i (a.snd, a.fst))) (List.getD c j ((0 : Int), (0 : Int)))) (True)) (List.length c)) (idxPre f (List.length c))) (f + 1)) ((j : Int))) ([x.fst, x.snd] = [x.fst, x.snd])) ([y.fst, y.snd] = [y.fst, y.snd])) (l ++ List.take j c)) ((n : Int))) (by kernel_rfl) ?_
   simp only [zz]
   obtain ⟨j1, j2⟩ : 1 ≤ j ∧ j ≤ c.length := hj
   refine ⟨fun h1 => ?_, fun h1 => by rw [show j = c.length by omega, List.take_length]; exact ⟨rfl, rfl⟩⟩
   have h1 : j < c.length := by omega
   have ii := idx_nat h1
   have sP : sumPre (l ++ c.take j).length [((c.getD j (0, 0)).1, (c.getD j (0, 0)).2)].length 16 := by unfold sumPre; simp only [List.length_singleton]; omega
   refine ⟨ii, i12, ii, i02, fun h2 => ⟨by omega, ii, sP, in1 (by omega), j + 1, ⟨by omega, by omega⟩, ⟨by rw [hs, h2]; rfl, by omega⟩, (List.append_assoc _ _ _).trans (by rw [hst j h1])⟩, fun h2 => ⟨ii, sP, in1 (by omega), j + 1, ⟨by omega, by omega⟩, ⟨by rw [hs, h2]; rfl, by omega⟩, (List.append_assoc _ _ _).trans (by rw [hst j h1])⟩⟩
def sIN (n : Nat) (e : LP) (d : Nat) (l : LP) (x : PA) (k : Nat) : St := ⟨(.int .i64 n :: .sl P2 e :: .sl P2 l :: dd 5 ++ .ptr 0 0 [] :: .ptr 1 0 [] :: .int .i64 (sm n e d l x k : Nat) :: .int .i64 k :: dd 110), [.bx (pa (xk x k).1 (xk x k).2), .bx (pa (tn x).1 (tn x).2)]⟩
def xIN (n : Nat) (e : LP) (d : Nat) (l : LP) (x : PA) : List (List Nat × Ex) := [([10], ⟨2, Unit, fun _ => True, fun _ => ⟨(dd 10 ++ .int .i64 (cnx n e d l x + cnx n e d l (tn x) : Nat) :: dd 111), []⟩⟩)]
def hIN (n : Nat) (e : LP) (d : Nat) (l : LP) (x : PA) : Hint := ⟨chk 0 [0, 1, 2, 8, 9, 10, 11] (fun k => k ≤ 2) (sIN n e d l x), (xIN n e d l x).map (·.2)⟩
theorem loopIN (n : Nat) (e : LP) (d : Nat) (h : CW n e d) (l : LP) (hl : l = []) (ho : ok50 n e (d + 1) l) (x : PA) (hx : x ∈ e) (hd : dcB l x = false) (R : Exit → St → Prop) : LoopOK (X50 n e d h 1000057) L50_2 (hIN n e d l x) R := by
 refine loop_ok (X50_ok _ _ _ _ _) (H := fun k _ => some (hJN n e l (xk x k) (tn x) (sm n e d l x k : Nat) k (rclL n e (xk x k)))) [0, 1, 2, 8, 9, 10, 11] (fun k => k ≤ 2) (sIN n e d l x) (fun k => 2 - k) (xIN n e d l x) 300 fun (k : Nat) hk => ?_
 have hL := fun h1 h0 h2 R => loopJN n e d h l hl h1 (xk x k) (tn x) (sm n e d l x k : Nat) k (rclL n e (xk x k)) h0 h2 R
 refine of_eq (q := (fun (p : Nat) => (fun (j : Int) => (fun (o : Int) => (fun (i : Int) => (fun (g : Prop) => (fun (f : PA) => (fun (q : List Int) => (fun (c : Int) => (fun (b : List Int) => (fun (a : LP) => (fun (r : Prop) => (fun (m : Int) => g ∧ g ∧ (j < 2 → g ∧ g ∧ g ∧ (((((0 : Int) ≤ i ∧ i ≤ 7) ∧ List.length e < 1000000000000000) ∧ (f.fst, f.snd) ∈ L62 n (jr e)) ∧ g) ∧ g ∧ g ∧ g ∧ g ∧ g ∧ g ∧ g ∧ g ∧ g ∧ (l = [] ∧ sumPre (0 : Nat) (List.length l) (nat_lit 16)) ∧ g ∧ g ∧ LoopOK (X50 n e d h (1000057 : Nat)) L50_4 (hJN n e l f (tn x) c j a) (bodyR (X50 n e d h (1000057 : Nat)).m0 (xIN n e d l x) R) ∧ ((∃ (y : Nat), y = 0 ∧ (i = i ∧ e = e ∧ l = l ∧ g ∧ g ∧ c = c ∧ j = j ∧ r ∧ true = true ∧ g ∧ (0 : Int) = (y : Int) ∧ g) ∧ q = q ∧ b = b ∧ g) ∨ ∃ (y : Nat), ((1 : Nat) ≤ y ∧ y ≤ List.length a) ∧ (i = i ∧ e = e ∧ l = l ∧ g ∧ g ∧ c = c ∧ j = j ∧ r ∧ true = okJ l a y ∧ False ∧ (0 : Int) = (y : Int) ∧ g) ∧ q = q ∧ b = b ∧ False) ∧ (∀ (y : Unit), g → g ∧ (okJ l a (List.length a) = true → g ∧ g ∧ g ∧ g ∧ ((ok50 n e d (l ++ a) ∧ (i = i ∧ e = e ∧ l ++ a = l ++ a ∧ g) ∧ g) ∧ g) ∧ inR .i64 m ∧ g ∧ g ∧ g ∧ g ∧ inR .i64 o ∧ g ∧ ∃ (y : Nat), (y ≤ p ∧ p - y < p - k) ∧ (i = i ∧ e = e ∧ l = l ∧ g ∧ g ∧ m = (↑(sm n e d l x y) : Int) ∧ o = (y : Int) ∧ g) ∧ b = [(xk x y).fst, (xk x y).snd] ∧ b = b ∧ g) ∧ (okJ l a (List.length a) = false → g ∧ g ∧ g ∧ inR .i64 o ∧ g ∧ ∃ (y : Nat), (y ≤ p ∧ p - y < p - k) ∧ (i = i ∧ e = e ∧ l = l ∧ g ∧ g ∧ c = (↑(sm n e d l x y) : Int) ∧ o = (y : Int) ∧ g) ∧ b = [(xk x y).fst, (xk x y).snd] ∧ b = b ∧ g)) ∧ g) ∧ (¬j < 2 → ∃ (y : Unit), g ∧ (c = (↑(cnx n e d l x) : Int) + (↑(cnx n e d l (tn x)) : Int) ∧ g) ∧ g)) (c + (↑(cnC n e d (l ++ a)) : Int))) (rclL n e (f.fst, f.snd) = a)) (rclL n e f)) ([(tn x).fst, (tn x).snd])) ((↑(sm n e d l x k) : Int))) ([f.fst, f.snd])) (xk x k)) (True)) ((n : Int))) (j + 1)) ((k : Int))) ((2 : Nat))) (by kernel_rfl) ?_
 simp only [zz]
 obtain ⟨⟨m1, m2⟩, m3, m4⟩ := in62 ho.ge hx
 have hn := ho.ge.hn
 have hxm : xk x k ∈ L62 n (jr e) ∧ dcB (rclL n e (xk x k)) x = true := by
   unfold xk dcB hasB
   split
   · exact ⟨m1, by rw [decide_eq_true m3]; rfl⟩
   · exact ⟨m2, by rw [decide_eq_true m4]; simp⟩
 obtain ⟨hxm, hxd⟩ := hxm
 have c49 := (rcl_ok hxm).hc
 have hxx : 0 < (rclL n e (xk x k)).length := by
   cases hcc : rclL n e (xk x k) with
   | nil => rw [hcc] at hxd; cases hxd
   | cons a b => simp
 have hul := un_less (c := rclL n e (xk x k)) hx hd hxd
 have hu := ho.u
 have hl1 := ho.l
 have hd2 := ho.d22
 have hst := sm_step n e d l x k
 have hsm := sm_le n e d (by omega) l x k
 have hcx := cnx_le n e d (by omega)
 have hee : cnx n e d l (xk x k) = if okJ l (rclL n e (xk x k)) (rclL n e (xk x k)).length = true then cnC n e d (l ++ rclL n e (xk x k)) else 0 := rfl
 have hel := gr_len ho.ge
 refine ⟨fun h1 => ?_, fun h1 => ?_⟩
 · obtain ⟨s1, s2⟩ := hst (by omega)
   have cc := (hcx (l ++ rclL n e (xk x k)) x).2
   refine ⟨⟨⟨⟨by omega, by omega⟩, by omega⟩, hxm⟩, ?copy, hL (by omega) hxx c49 _, ?beg, fun _ _ => ⟨fun h2 => ⟨⟨ho.ge, by omega, by omega, by rw [List.length_append]; omega⟩, by simp only [inR]; omega, in1 (by omega), k + 1, ⟨by omega, by omega⟩, ⟨?_, by omega⟩, by rw [s2]⟩, fun h2 => ⟨in1 (by omega), k + 1, ⟨by omega, by omega⟩, ⟨?_, by omega⟩, by rw [s2]⟩⟩⟩
   case copy => exact ⟨hl, by unfold sumPre; omega⟩
   case beg => exact ⟨0, rfl, rfl⟩
   · rw [s1, hee, if_pos h2]; omega
   · rw [s1, hee, if_neg (by rw [h2]; decide)]; omega
 · rw [show k = 2 by omega]
   show ((cnx n e d l x + cnx n e d l (tn x) : Nat) : Int) = _
   omega
def sHN (n : Nat) (e l : LP) (i : Nat) : St := ⟨(.int .i64 n :: .sl P2 e :: .sl P2 l :: dd 4 ++ .int .i64 i :: dd 114), []⟩
def xHN (n : Nat) (e l : LP) : List (List Nat × Ex) := [([0, 2], ⟨0, Unit, fun _ => ∀ j, j < e.length → dcB l (e.getD j (0, 0)) = true, fun _ => ⟨(.int .i64 n :: .dead :: .sl P2 l :: dd 119), []⟩⟩)]
def hHN (n : Nat) (e l : LP) : Hint := ⟨chk 0 [0, 1, 2, 7] (fun i => i ≤ e.length ∧ ∀ j, j < i → dcB l (e.getD j (0, 0)) = true) (sHN n e l), (xHN n e l).map (·.2)⟩
theorem loopHN (n : Nat) (e : LP) (d : Nat) (h : CW n e d) (l : LP) (hl : l = []) (ho : ok50 n e (d + 1) l) : LoopOK (X50 n e d h 1000057) L50_0 (hHN n e l) (RetR (X50 n e d h 1000057) true false [.tmp 6] [.int .i64 (cnC n e (d + 1) l : Nat)] []) := by
 refine loop_ok (X50_ok _ _ _ _ _) (H := fun i _ => some (hIN n e d l (e.getD i (0, 0)))) [0, 1, 2, 7] (fun i => i ≤ e.length ∧ ∀ j, j < i → dcB l (e.getD j (0, 0)) = true) (sHN n e l) (fun i => e.length - i) (xHN n e l) 300 fun (i : Nat) hi => ?_
 have hL := fun h1 h2 R => loopIN n e d h l hl ho (e.getD i (0, 0)) h1 h2 R
 refine of_eq (q := (fun (r : Int) => (fun (q : Int) => (fun (p : Int) => (fun (m : Int) => (fun (k : Cy) => (fun (f : Prop) => (fun (o : Prop) => (fun (a : Int × Int) => (fun (g : Int × Int) => (fun (c : Int × Int) => (fun (b : Prop) => f ∧ f ∧ f ∧ f ∧ (p < (↑(List.length e) : Int) → f ∧ f ∧ idxPre p (List.length e) ∧ f ∧ f ∧ f ∧ idxPre (1 : Int) (2 : Nat) ∧ f ∧ idxPre r (2 : Nat) ∧ f ∧ f ∧ f ∧ f ∧ f ∧ f ∧ o ∧ f ∧ (hasB l (c.fst, c.snd) = true → f ∧ b) ∧ (hasB l (c.fst, c.snd) = false → f ∧ f ∧ o ∧ f ∧ (hasB l (c.snd, c.fst) = true → b) ∧ (hasB l (c.snd, c.fst) = false → f ∧ f ∧ LoopOK k L50_2 (hIN n e d l g) (bodyR k.m0 (xHN n e l) (RetR k true false [ResultVar.tmp (6 : Tmp)] [AV.int .i64 q] [])) ∧ (∃ (y : Nat), y ≤ 2 ∧ (m = m ∧ e = e ∧ l = l ∧ f ∧ f ∧ r = (↑(sm n e d l g y) : Int) ∧ r = (y : Int) ∧ f) ∧ [c.fst, c.snd] = [(xk g y).fst, (xk g y).snd] ∧ [c.snd, c.fst] = [(tn g).fst, (tn g).snd] ∧ f) ∧ (∀ (y : Unit), f → f ∧ f ∧ f ∧ ((↑(cnx n e d l g) : Int) + (↑(cnx n e d l (tn g)) : Int) = q ∧ f) ∧ f) ∧ f))) ∧ (¬p < (↑(List.length e) : Int) → ∃ (y : Unit), (∀ (j : Nat), j < List.length e → dcB l (List.getD e j a) = true) ∧ (m = m ∧ l = l ∧ f) ∧ f)) (f ∧ inR .i64 (p + 1) ∧ f ∧ ∃ (y : Nat), ((y ≤ List.length e ∧ ∀ (j : Nat), j < y → dcB l (List.getD e j a) = true) ∧ List.length e - y < List.length e - i) ∧ (m = m ∧ e = e ∧ l = l ∧ p + 1 = (y : Int) ∧ f) ∧ f)) (List.getD e i a)) (List.getD e i a)) ((r, r))) (List.length l + 1 ≤ 1000000000000000 ∧ f)) (True)) (X50 n e d h (1000057 : Nat))) ((n : Int))) ((i : Int))) ((↑(cnC n e (d + 1) l) : Int))) ((0 : Int))) (by kernel_rfl) ?_
 simp only [zz]
 obtain ⟨i1, i2⟩ := hi
 have hl1 := ho.l
 have hel := gr_len ho.ge
 refine ⟨fun h1 => ?_, fun h1 => by rw [show i = e.length by omega] at i2; exact i2⟩
 have h1 : i < e.length := by omega
 have ii := idx_nat h1
 have nx : dcB l (e.getD i (0, 0)) = true → inR .i64 ((i : Int) + 1) ∧ ∃ y : Nat, ((y ≤ e.length ∧ ∀ j, j < y → dcB l (e.getD j (0, 0)) = true) ∧ e.length - y < e.length - i) ∧ (i : Int) + 1 = y := fun h => ⟨by simp only [inR]; omega, i + 1, ⟨⟨by omega, fun j hj => by
   by_cases e1 : j = i
   · rw [e1]; exact h
   · exact i2 j (by omega)⟩, by omega⟩, by omega⟩
 refine ⟨ii, i12, i02, by omega, fun h2 => nx (by unfold dcB; rw [show hasB l (e.getD i (0, 0)) = true from h2]; rfl), fun h2 => ⟨by omega, fun h3 => nx (by unfold dcB; rw [show hasB l (tn (e.getD i (0, 0))) = true from h3]; simp), fun h3 => ?_⟩⟩
 have hd : dcB l (e.getD i (0, 0)) = false := by
   unfold dcB
   rw [show hasB l (e.getD i (0, 0)) = false from h2, show hasB l (tn (e.getD i (0, 0))) = false from h3]; try rfl
 have hf : (e.find? fun x => !dcB l x) = some (e.getD i (0, 0)) := find_at h1 (fun j hj => by rw [i2 j hj]; rfl) (by rw [hd]; rfl)
 refine ⟨hL (mem_getD h1) hd _, ⟨0, by omega, ⟨rfl, rfl⟩, rfl, rfl⟩, fun _ _ => ?_⟩
 rw [cnC_some hf]; omega
theorem call50N (n : Nat) (e : LP) (d : Nat) (h : CW n e d) (l : LP) (hl : l = []) (ho : ok50 n e (d + 1) l) : GCall Try.prog gl 50 true [.int .i64 n, .sl P2 e, .sl P2 l] [] [.int .i64 (cnC n e (d + 1) l : Nat)] [] := by
 refine gcall_of (X := (X50 n e d h 1000057)) ((X50_ok _ _ _ _ _)) (f := 50) (fn := Try.f50) (c := bodyOf Try.f50) (by kernel_rfl) (by kernel_rfl) (view := false) (rvs := [.tmp 6]) (by kernel_rfl) (H := (fun id => if id = 0 then some (hHN n e l) else some (ha50N n l))) 200 (by kernel_rfl) ?_
 have hL := loopHN n e d h l hl ho
 have hn : n ≤ 7 := by have := ho.ge.hn; omega
 have hl2 : l.length < 1000000000000000 := by have := ho.l; omega
 have hM := fun R => loop50Na n l hn hl2 e d h (R := R)
 refine of_eq (q := (fun (i : Int) => (fun (g : Int) => (fun (f : LP) => (fun (c : Prop) => (fun (b : Cy) => (fun (a : Int) => (fun (m : Prop) => (fun (k : Prop) => c ∧ c ∧ LoopOK b L50_0 (hHN n e l) (RetR b true false [ResultVar.tmp (6 : Tmp)] [AV.int .i64 a] []) ∧ (∃ (y : Nat), (y ≤ List.length e ∧ ∀ (j : Nat), j < y → dcB l (List.getD e j (i, i)) = true) ∧ (g = g ∧ e = e ∧ l = l ∧ i = (y : Int) ∧ c) ∧ c) ∧ (∀ (y : Unit), (∀ (j : Nat), j < List.length e → dcB l (List.getD e j (i, i)) = true) → c ∧ c ∧ LoopOK b L50_6 (ha50N n l) (RetR b true false [ResultVar.tmp (6 : Tmp)] [AV.int .i64 a] []) ∧ ((∃ (y : Nat), (y ≤ n ∧ prK (P62 n (hasF l)) (7 : Nat) (y * 7) = []) ∧ (g = g ∧ l = l ∧ c ∧ i = (y : Int) ∧ c) ∧ c) ∨ ∃ (y : Nat), y ≤ n ∧ (g = g ∧ l = l ∧ False ∧ i = (y : Int) ∧ c) ∧ False) ∧ (∀ (y : Unit), f = [] → c ∧ c ∧ ((1 : Nat) ≤ 1000000000000000 ∧ c) ∧ (true = true → k) ∧ (true = false → m)) ∧ (∀ (y : Unit), c → c ∧ c ∧ (List.length f + 1 ≤ 1000000000000000 ∧ c) ∧ (ioB g f = true → k) ∧ (ioB g f = false → m)) ∧ c) ∧ c) (c ∧ c ∧ ((1 : Int) = a ∧ c) ∧ c)) (c ∧ c ∧ (i = a ∧ c) ∧ c)) ((↑(cnC n e (d + 1) l) : Int))) (X50 n e d h (1000057 : Nat))) (True)) (L62 n (hasF l))) ((n : Int))) ((0 : Int))) (by kernel_rfl) ?_
 simp only [zz]
 refine ⟨hL, ⟨0, ⟨Nat.zero_le _, fun j hj => absurd hj (Nat.not_lt_zero _)⟩, rfl⟩, fun _ h0 => ⟨hM _, ⟨0, ⟨Nat.zero_le _, rfl⟩, rfl⟩, ?_, ?_⟩⟩
 · intro _ h1
   have hc := cnC_none (n := n) (d := d) (find_no (p := fun x => !dcB l x) fun j hj => by rw [h0 j hj]; rfl)
   rw [h1, if_pos (io_nil _)] at hc
   exact ⟨by omega, fun _ => by omega, fun h => by cases h⟩
 · intro _ _
   have hc := cnC_none (n := n) (d := d) (find_no (p := fun x => !dcB l x) fun j hj => by rw [h0 j hj]; rfl)
   have h49 : (L62 n (hasF l)).length ≤ 49 := prK_len _ 7 49
   exact ⟨by omega, fun h => by rw [hc, if_pos h]; rfl, fun h => by rw [hc, if_neg (by rw [h]; decide)]; rfl⟩
theorem CW_all (n : Nat) (e : LP) : ∀ d, CW n e d
 | 0 => fun l ho => absurd ho.u (Nat.not_lt_zero _)
 | d + 1 => fun l ho => by
   by_cases hl : l = []
   · exact call50N n e d (CW_all n e d) l hl ho
   · exact call50S n e d (CW_all n e d) l hl ho
end Go.Am.Or

/- Orders: the reference: Count. -/
namespace Go.Am.Or
open Go Go.Am Go.Proofs
structure G50 where
 n : Int
 e : LP
 l : LP
def get50G (xs : List AV) (_ : List Ob) : Option G50 :=
 match xs with
 | [.int .i64 n, .sl t e, .vv (.slice none 0 0)] => (match castL t P2 e with
   | some e => some ⟨n, e, []⟩
   | none => none)
 | _ => none
structure ok50G (x : G50) : Prop where
 n : 0 ≤ x.n
 o : ok50 x.n.toNat x.e 50 []
 l : x.l = []
def e50G : Entry Try.prog gl := entryW 50 ⟨Try.f50, by kernel_rfl, by kernel_rfl, by kernel_rfl⟩ false get50G ok50G true (fun x => [.int .i64 x.n, .sl P2 x.e, .sl P2 []]) (fun _ => []) (fun x => [.int .i64 (cnC x.n.toNat x.e 50 [] : Nat)]) (fun _ => []) (fun x h => by
 have := CW_all x.n.toNat x.e 50 [] h.o
 rwa [Int.toNat_of_nonneg h.n] at this)
theorem call12 (n : Nat) (e : LP) (he : grOk n e) : GCall Try.prog gl 12 true [.int .i64 n, .sl P2 e] [] [.int .i64 (cnC n e 50 [] : Nat)] [] := by
 refine gcall_of (X := (X [e50G])) ((X_ok _)) (f := 12) (fn := Try.f12) (c := bodyOf Try.f12) (by kernel_rfl) (by kernel_rfl) (view := false) (rvs := [.tmp 4]) (by kernel_rfl) (H := fun _ => none) 100 (by kernel_rfl) ?_
 refine of_eq (q := True ∧ True ∧ True ∧ ((ok50G { n := (n : Int), e := e, l := [] } ∧ ((n : Int) = (n : Int) ∧ e = e ∧ ([] : List (Int × Int)) = [] ∧ True) ∧ True) ∧ True) ∧ True ∧ True ∧ ((↑(cnC n e (50 : Nat) []) : Int) = (↑(cnC n e (50 : Nat) []) : Int) ∧ True) ∧ True) (by kernel_rfl) ?_
 simp only [zz]
 have hl := gr_len he
 have hu : unD e [] ≤ e.length := List.countP_le_length
 exact ⟨by show (0 : Int) ≤ n; omega, ⟨he, by show unD e [] < 50; omega, by decide, by decide⟩, rfl⟩
def e12 : Entry Try.prog gl := entry2 12 ⟨Try.f12, by kernel_rfl, by kernel_rfl, by kernel_rfl⟩ I64 SP (fun (n : Int) e => grOk n e) true (fun (n : Int) e => [.int .i64 (cnC n.toNat e 50 [] : Nat)]) (fun _ _ => []) (fun (n : Int) e h => by have := call12 n.toNat e (by rw [toN h]; exact h); rwa [toN h] at this)
end Go.Am.Or

/- Orders: the law Counts, its walk. -/
namespace Go.Am.Or
open Go Go.Am Go.Proofs
def c11 (n : Int) (l : LP) : Int := if n ≤ 6 then (ctN n.toNat l : Int) else 0
def r11 (n : Int) : Int := if n ≤ 6 then 0 else 1
def e11C : Entry Try.prog gl := entry2 11 ⟨Try.f11, by kernel_rfl, by kernel_rfl, by kernel_rfl⟩ I64 SP (fun (n : Int) l => grOk n l) false (fun (n : Int) l => [.int .i64 (c11 n l), .int .i64 (r11 n)]) (fun _ _ => []) (fun (n : Int) l h => by
 unfold c11 r11
 by_cases h6 : n ≤ 6
 · rw [if_pos h6, if_pos h6]
   have := call11 n.toNat l (by rw [toN h]; exact h) (by omega); rwa [toN h] at this
 · rw [if_neg h6, if_neg h6]
   have h7 : n = 7 := by have := h.hn; omega
   subst h7
   exact call11E l h)
theorem grOk.up {m : Int} {e : LP} (h : grOk m e) : grOk 7 e := by
 have hm := h.hn
 refine { h with hn := ⟨by decide, by decide⟩, he := fun k hk => ?_ }
 obtain ⟨h1, h2, h3, h4⟩ := h.he k hk
 exact ⟨h1, h2, by omega, h4⟩
noncomputable abbrev X3 : Cy := X [e10, e11C, e12, e13]
theorem call3C (n : Int) (l : LP) (hl : l.length < 1000000000000000) (hc : ctN (tmM n 6) (tmL (tmM n 6) l) = cnC (tmM n 6) (tmL (tmM n 6) l) 50 []) : GCall Try.prog gl 3 true [.int .i64 n, .sl P2 l] [] [.tt] [] := by
 obtain ⟨m1, m6⟩ := tmM_bd (n := n) (most := 6) (by omega)
 have ge : grOk (tmM n 6) (tmL (tmM n 6) l) := L46_ok m1 (by omega) _
 refine gcall_of (X := X3) ((X_ok _)) (f := 3) (fn := Try.f3) (c := bodyOf Try.f3) (by kernel_rfl) (by kernel_rfl) (view := false) (rvs := [.tmp 4]) (by kernel_rfl) (H := fun _ => none) 300 (by kernel_rfl) ?_
 refine of_eq (q := (fun (g : Int) => (fun (b : Prop) => (fun (c : Prop) => (fun (a : Nat) => (fun (f : Int) => (fun (d : LP) => (fun (e : Prop) => b ∧ b ∧ b ∧ ((((1 : Int) ≤ 6 ∧ (6 : Int) ≤ g) ∧ List.length l < 1000000000000000) ∧ b) ∧ b ∧ b ∧ b ∧ b ∧ b ∧ b ∧ b ∧ (grOk f d ∧ b) ∧ b ∧ b ∧ b ∧ b ∧ b ∧ b ∧ (grOk g d ∧ b) ∧ b ∧ b ∧ b ∧ b ∧ b ∧ b ∧ b ∧ b ∧ (r11 f = 0 → b ∧ b ∧ b ∧ (grOk f d ∧ b) ∧ b ∧ b ∧ b ∧ (e → b ∧ b ∧ b ∧ b ∧ (r11 g = 1 → b ∧ b ∧ b ∧ b ∧ (c11 g d = 0 → (b ∧ b) ∧ b ∧ b ∧ b ∧ (true = true ∧ b) ∧ b) ∧ (¬c11 g d = 0 → c)) ∧ (¬r11 g = 1 → b ∧ b ∧ c)) ∧ (¬e → b ∧ b ∧ b ∧ b ∧ c)) ∧ (¬r11 f = 0 → b ∧ b ∧ b ∧ b ∧ b ∧ b ∧ c)) (c11 f d = (↑(cnC a d (50 : Nat) []) : Int))) (tmL a l)) ((a : Int))) (tmM n (6 : Nat))) (b ∧ b ∧ b ∧ (false = true ∧ b) ∧ b)) (True)) ((7 : Int))) (by kernel_rfl) ?_
 simp only [zz]
 have e1 : c11 (tmM n 6 : Nat) (tmL (tmM n 6) l) = (ctN (tmM n 6) (tmL (tmM n 6) l) : Nat) := by
   unfold c11; rw [if_pos (by omega), Int.toNat_natCast]
 have e2 : r11 (tmM n 6 : Nat) = 0 := by unfold r11; rw [if_pos (by omega)]
 rw [e1, e2, hc]
 exact ⟨⟨⟨by decide, by decide⟩, hl⟩, ge, ge.up, fun _ => ⟨ge, fun _ => ⟨fun _ => ⟨fun _ => trivial, fun h => absurd rfl h⟩, fun h => absurd rfl h⟩, fun h => absurd rfl h⟩, fun h => absurd rfl h⟩
end Go.Am.Or

/- Orders, plain: both counts count the transitive orientations. -/
namespace Go.Am.Or
open Go Go.Am Go.Proofs
/-- All completions of r by one direction for each edge. -/
def ors : LP → RF → List RF
 | [], r => [r]
 | x :: E, r => ors E (upd r x.1.toNat x.2.toNat true) ++ ors E (upd r x.2.toNat x.1.toNat true)
theorem upd_iff {r : RF} {a b x y : Nat} : upd r a b true x y = true ↔ (x = a ∧ y = b) ∨ r x y = true := by
 unfold upd
 split
 · rename_i h; exact ⟨fun _ => .inl h, fun _ => rfl⟩
 · rename_i h; exact ⟨.inr, fun h2 => h2.elim (fun h3 => absurd h3 h) id⟩
/-- What is known of a completion. -/
structure orM (E : LP) (r t : RF) : Prop where
 up : ∀ x y, r x y = true → t x y = true
 on : ∀ x y, t x y = true → r x y = true ∨ ∃ z, z ∈ E ∧ ((x = z.1.toNat ∧ y = z.2.toNat) ∨ (x = z.2.toNat ∧ y = z.1.toNat))
 al : ∀ z, z ∈ E → t z.1.toNat z.2.toNat = true ∨ t z.2.toNat z.1.toNat = true
theorem ors_mem : ∀ {E : LP} {r t : RF}, t ∈ ors E r → orM E r t
 | [], r, t, h => by
   have h : t = r := by simpa [ors] using h
   subst h
   exact ⟨fun _ _ h => h, fun _ _ h => .inl h, fun z hz => by simp at hz⟩
 | x :: E, r, t, h => by
   rw [ors, List.mem_append] at h
   rcases h with h | h
   · have q := ors_mem h
     refine ⟨fun a b hab => q.up a b (upd_iff.mpr (.inr hab)), fun a b hab => ?_, fun z hz => ?_⟩
     · rcases q.on a b hab with h1 | ⟨z, hz, h1⟩
       · rcases upd_iff.mp h1 with h2 | h2
         · exact .inr ⟨x, by simp, .inl h2⟩
         · exact .inl h2
       · exact .inr ⟨z, by simp [hz], h1⟩
     · rcases List.mem_cons.mp hz with rfl | hz
       · exact .inl (q.up _ _ (upd_iff.mpr (.inl ⟨rfl, rfl⟩)))
       · exact q.al z hz
   · have q := ors_mem h
     refine ⟨fun a b hab => q.up a b (upd_iff.mpr (.inr hab)), fun a b hab => ?_, fun z hz => ?_⟩
     · rcases q.on a b hab with h1 | ⟨z, hz, h1⟩
       · rcases upd_iff.mp h1 with h2 | h2
         · exact .inr ⟨x, by simp, .inr h2⟩
         · exact .inl h2
       · exact .inr ⟨z, by simp [hz], h1⟩
     · rcases List.mem_cons.mp hz with rfl | hz
       · exact .inr (q.up _ _ (upd_iff.mpr (.inl ⟨rfl, rfl⟩)))
       · exact q.al z hz
/-- An edge of the graph. -/
def edF (f : RF) (z : PA) : Prop := f z.1.toNat z.2.toNat = true
theorem orM.sub {n : Nat} {f r t : RF} {E : LP} (q : orM E r t) (hg : gr n f) (hE : ∀ z, z ∈ E → edF f z) (hr : ∀ x y, r x y = true → f x y = true) (x y : Nat) (h : t x y = true) : f x y = true := by
 rcases q.on x y h with h1 | ⟨z, hz, ⟨rfl, rfl⟩ | ⟨rfl, rfl⟩⟩
 · exact hr x y h1
 · exact hE z hz
 · rw [hg.sy]; exact hE z hz
/-- A branch that is cut has no order. -/
theorem cut_no {n : Nat} {f r t : RF} (hg : gr n f) (ht : trB t = true) (hsub : ∀ x y, t x y = true → f x y = true) (hup : ∀ x y, r x y = true → t x y = true) {a b : Nat} (hab : r a b = true) : spB n f r a b = false := by
 have hn := hg.hn
 have h7 : ∀ x y, t x y = true → x < 7 ∧ y < 7 := fun x y h => by have := hg.lt x y (hsub x y h); omega
 have tab := hup a b hab
 have l1 := h7 a b tab
 unfold spB
 rw [List.any_eq_false]
 intro c hc
 have hc7 := List.mem_range.mp hc
 intro h
 unfold spC at h
 simp only [Bool.or_eq_true, Bool.and_eq_true, Bool.not_eq_true'] at h
 rcases h with ⟨h1, h2⟩ | ⟨h1, h2⟩
 · have tbc := hup b c h1
   have tac := (tr2 ht l1.1 l1.2 tab).2 c (by omega) tbc
   rcases h2 with h2 | h2
   · rw [hsub a c tac] at h2; cases h2
   · have := (tr2 ht l1.1 (by omega) tac).1
     rw [hup c a h2] at this; cases this
 · have tca := hup c a h1
   have tcb := (tr2 ht (by omega) l1.1 tca).2 b l1.2 tab
   rcases h2 with h2 | h2
   · rw [hsub c b tcb] at h2; cases h2
   · have := (tr2 ht (by omega) l1.2 tcb).1
     rw [hup b c h2] at this; cases this
theorem gw_nt {n : Nat} {f : RF} (hg : gr n f) : ∀ (E : LP) (r : RF), (∀ z, z ∈ E → edF f z) → (∀ x y, r x y = true → f x y = true) → gw n f E r = (ors E r).countP trB
 | [], r, _, _ => by
   rw [gw, ors, List.countP_cons, List.countP_nil]; simp
 | x :: E, r, hE, hr => by
   have key : ∀ a b, f a b = true → (if sp1 n f r a b = true then 0 else gw n f E (upd r a b true)) = (ors E (upd r a b true)).countP trB := fun a b hab => by
     have hr' : ∀ x y, upd r a b true x y = true → f x y = true := fun x y h => by
       rcases upd_iff.mp h with ⟨rfl, rfl⟩ | h
       · exact hab
       · exact hr x y h
     split
     · rename_i hs
       symm
       rw [List.countP_eq_zero]
       intro t ht htr
       have q := ors_mem ht
       have := cut_no hg htr (q.sub hg (fun z hz => hE z (by simp [hz])) hr') q.up (upd_iff.mpr (.inl ⟨rfl, rfl⟩))
       unfold sp1 at hs
       rw [this] at hs; cases hs
     · exact gw_nt hg E _ (fun z hz => hE z (by simp [hz])) hr'
   have hx := hE x (by simp)
   rw [gw, ors, List.countP_append, key _ _ hx, key _ _ (by rw [hg.sy]; exact hx)]
end Go.Am.Or

/- Orders, plain: the reference's count, by classes. -/
namespace Go.Am.Or
open Go Go.Am Go.Proofs
def tA (t : RF) (y : PA) : Bool := t y.1.toNat y.2.toNat
def Ql (l : LP) (t : RF) : Bool := l.all (tA t) && trB t
theorem countP_add {p q r : RF → Bool} : ∀ {L : List RF}, (∀ t, t ∈ L → (if p t = true then 1 else 0) = (if q t = true then 1 else 0) + (if r t = true then 1 else 0)) → L.countP p = L.countP q + L.countP r
 | [], _ => rfl
 | t :: L, h => by
   have ih := countP_add (L := L) fun t ht => h t (by simp [ht])
   have h1 := h t (by simp)
   rw [List.countP_cons, List.countP_cons, List.countP_cons]
   omega
/-- A transitive completion is an order of the graph. -/
theorem ors_isOr {n : Nat} {e : LP} (he : grOk n e) {t : RF} (h : t ∈ ors e zf) (ht : trB t = true) : isOr n (eg e) t := by
 have hg := gr_eg he
 have q := ors_mem h
 have hE : ∀ z, z ∈ e → edF (eg e) z := fun z hz => by
   have := he.at hz
   unfold edF eg
   exact List.any_eq_true.mpr ⟨z, hz, by simp; omega⟩
 have hs := q.sub hg hE (fun x y h => by cases h)
 refine ⟨ht, fun x y hx hy => ⟨fun hf => ?_, fun h => h.elim (hs x y) fun h => by rw [hg.sy]; exact hs y x h⟩, hs⟩
 unfold eg at hf
 obtain ⟨z, hz, h2⟩ := List.any_eq_true.mp hf
 have hz0 := he.at hz
 have := q.al z hz
 simp only [Bool.or_eq_true, Bool.and_eq_true, decide_eq_true_eq] at h2
 rcases h2 with ⟨h3, h4⟩ | ⟨h3, h4⟩
 · rw [show z.1.toNat = x by omega, show z.2.toNat = y by omega] at this; exact this
 · rw [show z.1.toNat = y by omega, show z.2.toNat = x by omega] at this; exact this.symm
/-- An arrow of the graph. -/
structure arE (n : Nat) (e : LP) (y : PA) : Prop where
 p1 : 0 ≤ y.1
 p2 : 0 ≤ y.2
 f : tA (eg e) y = true
theorem arE.nat {n : Nat} {e : LP} {y : PA} (h : arE n e y) : y = ((y.1.toNat : Int), (y.2.toNat : Int)) := by
 have := h.p1; have := h.p2
 exact Prod.ext (by simp only; omega) (by simp only; omega)
theorem arE.tn {n : Nat} {e : LP} (he : grOk n e) {y : PA} (h : arE n e y) : arE n e (tn y) := ⟨h.p2, h.p1, by unfold tA Or.tn; rw [eg_sy]; exact h.f⟩
theorem arE.of {n : Nat} {e : LP} (he : grOk n e) {x : PA} (hx : x ∈ e) : arE n e x := by
 have := he.at hx
 refine ⟨by omega, by omega, ?_⟩
 unfold tA eg
 exact List.any_eq_true.mpr ⟨x, hx, by simp; omega⟩
theorem not_both {t : RF} {n : Nat} {e : LP} (he : grOk n e) (ht : isOr n (eg e) t) {y : PA} (h1 : tA t y = true) (h2 : tA t (tn y) = true) : False := by
 have hg := gr_eg he
 have h3 := hg.lt _ _ (ht.oi _ _ h1)
 have hn := hg.hn
 have := (tr2 ht.tr (by omega) (by omega) h1).1
 rw [show t y.2.toNat y.1.toNat = true from h2] at this
 cases this
/-- With an arrow an order has its class. -/
theorem cls_in {t : RF} {n : Nat} {e : LP} (he : grOk n e) (ht : isOr n (eg e) t) {y : PA} (hy : arE n e y) : (rclL n e y).all (tA t) = tA t y := by
 have hm : ∀ z, z ∈ rclL n e y ↔ rcy (eg e) y.1.toNat y.2.toNat z := fun z => by
   have := rcl_mem he (a := y.1.toNat) (b := y.2.toNat) hy.f (y := z)
   rwa [← hy.nat] at this
 rw [Bool.eq_iff_iff, List.all_eq_true]
 constructor
 · intro h
   exact h y ((hm y).mpr ⟨_, _, hy.nat, .refl⟩)
 · intro h z hz
   obtain ⟨c, d, rfl, hc⟩ := (hm z).mp hz
   exact or_closed (gr_eg he) ht h hc
theorem Ql_app (l c : LP) (t : RF) : Ql (l ++ c) t = (Ql l t && c.all (tA t)) := by
 unfold Ql
 rw [List.all_append]
 cases l.all (tA t) <;> cases c.all (tA t) <;> cases trB t <;> rfl
/-- The list of completions is split by an edge. -/
theorem Q_split {n : Nat} {e : LP} (he : grOk n e) (l : LP) {x : PA} (hx : x ∈ e) : (ors e zf).countP (Ql l) = (ors e zf).countP (Ql (l ++ rclL n e x)) + (ors e zf).countP (Ql (l ++ rclL n e (tn x))) := by
 refine countP_add fun t ht => ?_
 rw [Ql_app, Ql_app]
 cases hq : Ql l t with
 | false => rfl
 | true =>
   have htr : trB t = true := by
     unfold Ql at hq
     rw [Bool.and_eq_true] at hq
     exact hq.2
   have ho := ors_isOr he ht htr
   have ha := arE.of he hx
   rw [cls_in he ho ha, cls_in he ho (ha.tn he)]
   have hal := (ors_mem ht).al x hx
   cases h1 : tA t x with
   | true =>
     cases h2 : tA t (tn x) with
     | true => exact (not_both he ho h1 h2).elim
     | false => rfl
   | false =>
     cases h2 : tA t (tn x) with
     | true => rfl
     | false =>
       rcases hal with h | h
       · rw [show t x.1.toNat x.2.toNat = false from h1] at h; cases h
       · rw [show t x.2.toNat x.1.toNat = false from h2] at h; cases h
/-- A list with an arrow and its turn is in no order. -/
theorem Q_zero {n : Nat} {e : LP} (he : grOk n e) {l : LP} {y : PA} (h1 : y ∈ l) (h2 : tn y ∈ l) : (ors e zf).countP (Ql l) = 0 := by
 rw [List.countP_eq_zero]
 intro t ht hq
 unfold Ql at hq
 rw [Bool.and_eq_true, List.all_eq_true] at hq
 exact not_both he (ors_isOr he ht hq.2) (hq.1 y h1) (hq.1 _ h2)
theorem ok_no {l c : LP} (h : okJ l c c.length = false) : ∃ y, y ∈ l ++ c ∧ tn y ∈ l ++ c := by
 unfold okJ at h
 have h := of_decide_eq_false h
 refine Classical.byContradiction fun hx => h fun i hi => ?_
 unfold hasB
 refine decide_eq_false fun hm => hx ⟨c.getD i (0, 0), List.mem_append_right _ (mem_getD hi), ?_⟩
 rcases List.mem_append.mp hm with hm | hm
 · exact List.mem_append_left _ hm
 · exact List.mem_append_right _ (List.mem_of_mem_take hm)
/-- What is left: all edges are decided. -/
def baseOk (n : Nat) (e : LP) : Prop := ∀ l : LP, (∀ y, y ∈ l → arE n e y) → (∀ x, x ∈ e → dcB l x = true) → (ors e zf).countP (Ql l) = if ioB n (L62 n (hasF l)) = true then 1 else 0
theorem cnC_cnt {n : Nat} {e : LP} (he : grOk n e) (hb : baseOk n e) : ∀ d l, ok50 n e d l → (∀ y, y ∈ l → arE n e y) → cnC n e d l = (ors e zf).countP (Ql l)
 | 0, l, ho, _ => absurd ho.u (Nat.not_lt_zero _)
 | d + 1, l, ho, hl => by
   cases hf : e.find? fun x => !dcB l x with
   | none =>
     rw [cnC_none hf, hb l hl fun x hx => by
       have := List.find?_eq_none.mp hf x hx
       simpa using this]
   | some x =>
     have hx := List.mem_of_find?_eq_some hf
     have hd : dcB l x = false := by
       have := List.find?_some hf
       simpa using this
     obtain ⟨⟨m1, m2⟩, m3, m4⟩ := in62 he hx
     have key : ∀ y, arE n e y → y ∈ L62 n (jr e) → dcB (rclL n e y) x = true → cnx n e d l y = (ors e zf).countP (Ql (l ++ rclL n e y)) := fun y hy hm hdy => by
       unfold cnx
       split
       · have hul := un_less (c := rclL n e y) hx hd hdy
         have c49 := (rcl_ok hm).hc
         have hu := ho.u
         have h1 := ho.l
         have h2 := ho.d22
         refine cnC_cnt he hb d _ ⟨he, by omega, by omega, by rw [List.length_append]; omega⟩ fun z hz => ?_
         rcases List.mem_append.mp hz with hz | hz
         · exact hl z hz
         · obtain ⟨c, k, rfl, hc⟩ := (rcl_mem he (a := y.1.toNat) (b := y.2.toNat) hy.f).mp (by rw [← hy.nat]; exact hz)
           exact ⟨by simp only; omega, by simp only; omega, Rc.ar hy.f hc⟩
       · rename_i hk
         obtain ⟨z, z1, z2⟩ := ok_no (by simpa using hk)
         rw [Q_zero he z1 z2]
     have ha := arE.of he hx
     rw [cnC_some hf, Q_split he l hx, key x ha m1 (by unfold dcB hasB; rw [decide_eq_true m3]; rfl), key (tn x) (ha.tn he) m2 (by unfold dcB hasB; rw [decide_eq_true m4]; simp)]
end Go.Am.Or

/- Orders, plain: all edges decided: one completion at most; and both counts are the same. -/
namespace Go.Am.Or
open Go Go.Am Go.Proofs
/-- Each edge the way the list has it. -/
def fin (l : LP) : LP → RF → RF
 | [], r => r
 | z :: E, r => fin l E (if z ∈ l then upd r z.1.toNat z.2.toNat true else upd r z.2.toNat z.1.toNat true)
theorem fin_iff {l : LP} {x y : Nat} : ∀ {E : LP} {r : RF}, fin l E r x y = true ↔ r x y = true ∨ ∃ z, z ∈ E ∧ ((z ∈ l ∧ x = z.1.toNat ∧ y = z.2.toNat) ∨ (¬ z ∈ l ∧ x = z.2.toNat ∧ y = z.1.toNat))
 | [], r => by simp [fin]
 | z :: E, r => by
   rw [fin, fin_iff]
   by_cases h : z ∈ l
   · rw [if_pos h, upd_iff]
     constructor
     · rintro ((h1 | h1) | ⟨w, hw, h1⟩)
       · exact .inr ⟨z, by simp, .inl ⟨h, h1⟩⟩
       · exact .inl h1
       · exact .inr ⟨w, by simp [hw], h1⟩
     · rintro (h1 | ⟨w, hw, h1⟩)
       · exact .inl (.inr h1)
       · rcases List.mem_cons.mp hw with rfl | hw
         · rcases h1 with h1 | h1
           · exact .inl (.inl h1.2)
           · exact absurd h h1.1
         · exact .inr ⟨w, hw, h1⟩
   · rw [if_neg h, upd_iff]
     constructor
     · rintro ((h1 | h1) | ⟨w, hw, h1⟩)
       · exact .inr ⟨z, by simp, .inr ⟨h, h1⟩⟩
       · exact .inl h1
       · exact .inr ⟨w, by simp [hw], h1⟩
     · rintro (h1 | ⟨w, hw, h1⟩)
       · exact .inl (.inr h1)
       · rcases List.mem_cons.mp hw with rfl | hw
         · rcases h1 with h1 | h1
           · exact absurd h1.1 h
           · exact .inl (.inl h1.2)
         · exact .inr ⟨w, hw, h1⟩
def ordE (z : PA) : Prop := 0 ≤ z.1 ∧ z.1 < z.2
theorem zero_br {l E : LP} {r : RF} {z : PA} {a b : Nat} (ho : ordE z) (hE : ∀ w, w ∈ E → ordE w) (hn : ¬ z ∈ E) (hab : (a = z.1.toNat ∧ b = z.2.toNat) ∨ (a = z.2.toNat ∧ b = z.1.toNat)) (hr : r a b = false) {y : PA} (hy : y ∈ l) (hya : y.1.toNat = a ∧ y.2.toNat = b) : (ors E (upd r b a true)).countP (Ql l) = 0 := by
 rw [List.countP_eq_zero]
 intro t ht hq
 unfold Ql at hq
 rw [Bool.and_eq_true, List.all_eq_true] at hq
 have h1 : t a b = true := by
   have := hq.1 y hy
   unfold tA at this
   rwa [hya.1, hya.2] at this
 unfold ordE at ho
 rcases (ors_mem ht).on a b h1 with h2 | ⟨w, hw, h2⟩
 · rcases upd_iff.mp h2 with h3 | h3
   · omega
   · rw [hr] at h3; cases h3
 · have hw2 := hE w hw
   unfold ordE at hw2
   exact hn (by rw [show z = w from Prod.ext (by omega) (by omega)]; exact hw)
theorem one_br {l : LP} : ∀ {E : LP} {r : RF}, E.Nodup → (∀ z, z ∈ E → ordE z) → (∀ z, z ∈ E → z ∈ l ∨ tn z ∈ l) → (∀ z, z ∈ E → tA r z = false ∧ tA r (tn z) = false) → (ors E r).countP (Ql l) = if Ql l (fin l E r) = true then 1 else 0
 | [], r, _, _, _, _ => by
   rw [ors, fin, List.countP_cons, List.countP_nil]; simp
 | z :: E, r, hnd, ho, hd, hr => by
   obtain ⟨n1, n2⟩ := List.nodup_cons.mp hnd
   have hoz := ho z (by simp)
   have hoE : ∀ w, w ∈ E → ordE w := fun w hw => ho w (by simp [hw])
   have hz := hr z (by simp)
   have hr' : ∀ a b, (a = z.1.toNat ∧ b = z.2.toNat) ∨ (a = z.2.toNat ∧ b = z.1.toNat) → ∀ w, w ∈ E → tA (upd r a b true) w = false ∧ tA (upd r a b true) (tn w) = false := fun a b hab w hw => by
     have h1 := hr w (by simp [hw])
     have hne : z ≠ w := fun e => n1 (by rw [e]; exact hw)
     have hw2 := hoE w hw
     unfold ordE at hw2 hoz
     have hne2 : ¬ (z.1 = w.1 ∧ z.2 = w.2) := fun h => hne (Prod.ext h.1 h.2)
     unfold tA tn at h1 ⊢
     unfold upd
     refine ⟨?_, ?_⟩
     · rw [if_neg (by omega)]; exact h1.1
     · simp only
       rw [if_neg (by omega)]; exact h1.2
   rw [ors, fin, List.countP_append]
   by_cases h : z ∈ l
   · rw [if_pos h, zero_br hoz hoE n1 (.inl ⟨rfl, rfl⟩) hz.1 h ⟨rfl, rfl⟩, Nat.add_zero]
     exact one_br n2 hoE (fun w hw => hd w (by simp [hw])) (hr' _ _ (.inl ⟨rfl, rfl⟩))
   · have h2 : tn z ∈ l := (hd z (by simp)).resolve_left h
     rw [if_neg h, zero_br hoz hoE n1 (.inr ⟨rfl, rfl⟩) hz.2 h2 ⟨rfl, rfl⟩, Nat.zero_add]
     exact one_br n2 hoE (fun w hw => hd w (by simp [hw])) (hr' _ _ (.inr ⟨rfl, rfl⟩))
theorem S_mem {n : Nat} (hn : n ≤ 7) {l : LP} {a b : Int} (h1 : 0 ≤ a) (h2 : 0 ≤ b) (hl : ∀ x y, hasF l x y = true → x < n ∧ y < n) : hasB (L62 n (hasF l)) (a, b) = hasF l a.toNat b.toNat := by
 unfold hasB
 rw [Bool.eq_iff_iff, decide_eq_true_eq, L62_mem hn]
 constructor
 · rintro ⟨x, y, e, _, _, h⟩
   have e1 := congrArg Prod.fst e
   have e2 := congrArg Prod.snd e
   simp only at e1 e2
   rw [show a.toNat = x by omega, show b.toNat = y by omega]; exact h
 · intro h
   have := hl _ _ h
   exact ⟨a.toNat, b.toNat, Prod.ext (by simp only; omega) (by simp only; omega), this.1, this.2, h⟩
theorem io_tr {n : Nat} (n1 : 1 ≤ n) (hn : n ≤ 7) {l : LP} (hl : ∀ x y, hasF l x y = true → x < n ∧ y < n) : ioB n (L62 n (hasF l)) = trB (hasF l) := by
 have hS := fun (a b : Int) h1 h2 => S_mem (n := n) hn (l := l) (a := a) (b := b) h1 h2 hl
 have hm : ∀ k, k < (L62 n (hasF l)).length → ∃ a b : Nat, (L62 n (hasF l)).getD k (0, 0) = ((a : Int), (b : Int)) ∧ a < n ∧ b < n ∧ hasF l a b = true := fun k hk => (L62_mem hn).mp (mem_getD hk)
 rw [Bool.eq_iff_iff]
 constructor
 · intro h
   have h := of_decide_eq_true h
   have at_ : ∀ a b : Nat, hasF l a b = true → ∃ k, k < (L62 n (hasF l)).length ∧ (L62 n (hasF l)).getD k (0, 0) = ((a : Int), (b : Int)) := fun a b hab => by
     have hab2 := hl a b hab
     obtain ⟨k, hk, e⟩ := List.getElem_of_mem ((L62_mem hn).mpr ⟨a, b, rfl, hab2.1, hab2.2, hab⟩)
     exact ⟨k, hk, by rw [getD_lt hk, e]⟩
   refine decide_eq_true fun a ha b hb hab => ?_
   obtain ⟨i, hi, ei⟩ := at_ a b hab
   obtain ⟨⟨_, h2, _⟩, h4⟩ := h i hi
   rw [ei] at h2
   rw [hS _ _ (by simp only; omega) (by simp only; omega)] at h2
   refine ⟨by simpa using h2, fun c hc hbc => ?_⟩
   obtain ⟨k, hk, ek⟩ := at_ b c hbc
   have h5 := h4 k hk
   unfold io2 at h5
   rw [ei, ek] at h5
   have h6 := h5 rfl
   rw [hS _ _ (by simp only; omega) (by simp only; omega)] at h6
   simpa using h6
 · intro h
   have hc : cmF n (hasF l) := ⟨hl, h⟩
   have hg := cm_given n1 hn hc
   have eP : prK (hasF l) 7 49 = L62 n (hasF l) := L62_ext2 fun x y => by
     unfold P62
     cases hx : hasF l x y with
     | false => simp
     | true => rw [decide_eq_true (hl x y hx).1, decide_eq_true (hl x y hx).2]; try rfl
   rw [eP] at hg
   refine decide_eq_true fun i hi => ⟨?_, fun k hk h1 => ?_⟩
   · obtain ⟨a, b, e, ha, hb, hab⟩ := hm i hi
     have h1 := hg.he i hi
     have hr := tr2 h (by omega) (by omega) hab
     unfold io1
     unfold arOk at h1
     rw [e] at h1 ⊢
     rw [hS _ _ (by simp only; omega) (by simp only; omega)]
     refine ⟨⟨by simp only; omega, by simp only; omega, by simp only; omega, by simp only; omega, fun hx => ?_⟩, by simpa using hr.1, fun h0 => ?_⟩
     · simp only at hx
       have : a = b := by omega
       subst this
       rw [hr.1] at hab; cases hab
     · have h2 := h1.2.2.2 h0
       unfold lt2 at h2
       unfold ltB
       rw [Bool.or_eq_true, Bool.and_eq_true, decide_eq_true_eq, decide_eq_true_eq, decide_eq_true_eq]
       exact h2
   · obtain ⟨a, b, e, ha, hb, hab⟩ := hm i hi
     obtain ⟨c, d, e2, hc2, hd2, hcd⟩ := hm k hk
     rw [e, e2] at h1 ⊢
     simp only at h1
     rw [hS _ _ (by simp only; omega) (by simp only; omega)]
     have : c = b := by omega
     subst this
     simpa using (tr2 h (by omega) (by omega) hab).2 d (by omega) hcd
theorem base_ok {n : Nat} {e : LP} (he : grOk n e) : baseOk n e := by
 intro l hl hd
 have hn := he.hn
 have hgr := gr_eg he
 have hlt : ∀ x y, hasF l x y = true → x < n ∧ y < n := fun x y h => by
   have := (hl _ (of_decide_eq_true h)).f
   have := hgr.lt _ _ this
   simpa using this
 rw [io_tr (by omega) (by omega) hlt]
 by_cases hb : ∃ y, y ∈ l ∧ tn y ∈ l
 · obtain ⟨y, h1, h2⟩ := hb
   rw [Q_zero he h1 h2, if_neg]
   intro ht
   have hy := hl y h1
   have g1 : hasF l y.1.toNat y.2.toNat = true := decide_eq_true (by rw [← hy.nat]; exact h1)
   have g2 : hasF l y.2.toNat y.1.toNat = true := decide_eq_true (by have := (hy.tn he).nat; rw [← show tn y = ((y.2.toNat : Int), (y.1.toNat : Int)) from this]; exact h2)
   have := hlt _ _ g1
   have := (tr2 ht (by omega) (by omega) g1).1
   rw [g2] at this; cases this
 · have hf : fin l e zf = hasF l := by
     funext x y
     rw [Bool.eq_iff_iff, fin_iff]
     constructor
     · rintro (h | ⟨z, hz, ⟨h, rfl, rfl⟩ | ⟨h, rfl, rfl⟩⟩)
       · cases h
       · exact decide_eq_true (by rw [← (hl z h).nat]; exact h)
       · have h2 : tn z ∈ l := by
           have := hd z hz
           unfold dcB hasB at this
           simp only [Bool.or_eq_true, decide_eq_true_eq] at this
           exact this.resolve_left h
         exact decide_eq_true (by have := (hl _ h2).nat; rw [← show tn z = ((z.2.toNat : Int), (z.1.toNat : Int)) from this]; exact h2)
     · intro h
       have hm := of_decide_eq_true h
       have hf := (hl _ hm).f
       unfold tA eg at hf
       obtain ⟨z, hz, h2⟩ := List.any_eq_true.mp hf
       simp only [Bool.or_eq_true, Bool.and_eq_true, decide_eq_true_eq, Int.toNat_natCast] at h2
       refine .inr ⟨z, hz, ?_⟩
       rcases h2 with ⟨h3, h4⟩ | ⟨h3, h4⟩
       · exact .inl ⟨by rw [show z = ((x : Int), (y : Int)) from Prod.ext h3 h4]; exact hm, by omega, by omega⟩
       · have et : tn z = ((x : Int), (y : Int)) := Prod.ext h4 h3
         exact .inr ⟨fun hzl => hb ⟨z, hzl, by rw [et]; exact hm⟩, by omega, by omega⟩
   rw [one_br (gr_nd he) (fun z hz => (he.at hz).1) (fun z hz => by
     have := hd z hz
     unfold dcB hasB at this
     simpa using this) (fun z hz => ⟨rfl, rfl⟩), hf]
   have : Ql l (hasF l) = trB (hasF l) := by
     unfold Ql
     have h1 : l.all (tA (hasF l)) = true := List.all_eq_true.mpr fun y hy => by
       have h2 := (hl y hy).nat
       unfold tA hasF hasB
       rw [← h2]
       exact decide_eq_true hy
     rw [h1, Bool.true_and]
   rw [this]
theorem ct_cn {n : Nat} {e : LP} {g : RF} (he : grOk n e) (ee : e = L46 n g) : ctN n e = cnC n e 50 [] := by
 have hn := he.hn
 have e2 : L46 n (eg e) = e := by
   rw [ee]
   refine L46_ext2 fun x y h1 h2 => ?_
   rw [Bool.eq_iff_iff, eg_L46 (by omega) (by omega)]
   exact ⟨fun h => h.elim (·.2.2) fun h => absurd h.1 (by omega), fun h => .inl ⟨h1, h2, h⟩⟩
 have hl := gr_len he
 have hu : unD e [] ≤ e.length := List.countP_le_length
 unfold ctN
 rw [e2, gw_nt (gr_eg he) e zf (fun z hz => (arE.of he hz).f) (fun x y h => by cases h), cnC_cnt he (base_ok he) 50 [] ⟨he, by omega, by decide, by decide⟩ (fun y hy => by simp at hy)]
 rfl
theorem call3 (n : Int) (l : LP) (hl : l.length < 1000000000000000) : GCall Try.prog gl 3 true [.int .i64 n, .sl P2 l] [] [.tt] [] := by
 obtain ⟨m1, m6⟩ := tmM_bd (n := n) (most := 6) (by omega)
 exact call3C n l hl (ct_cn (L46_ok m1 (by omega) _) rfl)
end Go.Am.Or

/- Orders: from the laws' contracts to the given statements: what all laws share. -/
namespace Go.Proofs.Ytlfigncfoiofgaa
open Go Go.ChangeShapes Go.WideShapes Go.ChangeAt Go.RowKit Go.Am Go.Am.Or
theorem own : ownKnob Try.prog.godebug = none := by kernel_rfl
theorem laidOut : laidOutB Try.prog = true := by kernel_rfl
theorem u3 : Try.prog.underlying 3 = some (.int .i64) := by kernel_rfl
theorem u4 : Try.prog.underlying 4 = some .bool := by kernel_rfl
theorem u52 : Try.prog.underlying 52 = some (.array 2 3) := by kernel_rfl
theorem u22 : Try.prog.underlying 22 = some (.slice 52) := by kernel_rfl
theorem u32 : Try.prog.underlying 32 = some (.array 2 31) := by kernel_rfl
theorem tyOk3 : TyOk Try.prog 3 I64 := u3
theorem tyOk52 : TyOk Try.prog 52 P2 := ⟨3, u52, u3, by kernel_rfl, by kernel_rfl⟩
theorem tyOk22 : TyOk Try.prog 22 (.sl P2) := ⟨52, u22, tyOk52, by kernel_rfl, by decide, of_decide_eq_true (by kernel_rfl)⟩
theorem reach_le {l : List Nat} (h : l.all (fun x => decide (x ≤ reachBytes)) = true) : ∀ n ∈ l, n ≤ 140737488355328 := fun n hn => by
 have := of_decide_eq_true (List.all_eq_true.mp h n hn)
 have e : reachBytes = 140737488351232 := rfl
 omega
theorem glob_of {W : World} : GlobOk gl (fun b => b < W.heap.size) W := fun g p hp => by cases hp
end Go.Proofs.Ytlfigncfoiofgaa
