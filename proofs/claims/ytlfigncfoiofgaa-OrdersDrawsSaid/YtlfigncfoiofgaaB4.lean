/- Part B4 of the proof that the law named in the last file returns true at every input and leaves its arguments as they were; no condition of its own. -/
import Derived.Test.YtlfigncfoiofgaaB3
set_option linter.unusedSimpArgs false
set_option linter.unusedVariables false
/- Orders: the number of orders. -/
namespace Go.Am.Or
open Go Go.Am Go.Proofs
def spC (f r : RF) (a b c : Nat) : Bool := (r b c && (!f a c || r c a)) || (r c a && (!f c b || r b c))
def spB (n : Nat) (f r : RF) (a b : Nat) : Bool := (List.range n).any (spC f r a b)
noncomputable def L49_0 : Code := lp (bodyOf Try.f49) 0
def st49 (n : Nat) (f r : RF) (a b c : Nat) : St := ⟨(.ptr 0 0 [] :: .dead :: .int .i64 a :: .int .i64 b :: .dead :: .ptr 1 0 [] :: dd 7 ++ .int .i64 n :: .int .i64 c :: dd 51), [grO n f, relO r]⟩
def ex49 (n : Nat) (f r : RF) (a b : Nat) : List (List Nat × Ex) := [([], ⟨0, Unit, fun _ => spB n f r a b = false, fun _ => ⟨(dd 66), [grO n f]⟩⟩)]
def h49 (n : Nat) (f r : RF) (a b : Nat) : Hint := ⟨chk 1 [0, 2, 3, 5, 13, 14] (fun c => c ≤ n ∧ ∀ j, j < c → spC f r a b j = false) (st49 n f r a b), (ex49 n f r a b).map (·.2)⟩
theorem spB_yes {n : Nat} {f r : RF} {a b c : Nat} (hc : c < n) (h : spC f r a b c = true) : spB n f r a b = true := List.any_eq_true.mpr ⟨c, by simpa using hc, h⟩
theorem spB_no {n : Nat} {f r : RF} {a b : Nat} (h : ∀ j, j < n → spC f r a b j = false) : spB n f r a b = false := by
 unfold spB
 rw [List.any_eq_false]
 intro j hj
 rw [h j (by simpa using hj)]; decide
theorem loop49 (n : Nat) (hn : n ≤ 7) (f r : RF) (a b : Nat) (ha : a < 7) (hb : b < 7) : LoopOK X1 L49_0 (h49 n f r a b) (RetR X1 true false [.tmp 8] [.bool (spB n f r a b)] [grO n f]) := by
 refine loop_ok (Xm_ok _ _ _) (H := fun _ _ => none) [0, 2, 3, 5, 13, 14] (fun c => c ≤ n ∧ ∀ j, j < c → spC f r a b j = false) (st49 n f r a b) (fun c => n - c) (ex49 n f r a b) 250 fun (c : Nat) hc => ?_
 refine of_eq (q := (fun (u : Int) => (fun (t : Int) => (fun (s : Rl) => (fun (q : Prop) => (fun (p : Prop) => (fun (k : Prop) => (fun (i : Prop) => (fun (o : Prop) => (fun (h : Prop) => (fun (g : Prop) => (fun (e : List Bool) => (fun (w : Bool) => (fun (v : Bool) => (fun (m : Bool) => (fun (l : Bool) => (fun (d : Prop) => i ∧ (u < t → i ∧ i ∧ i ∧ i ∧ p ∧ k ∧ i ∧ i ∧ (l = true → i ∧ i ∧ i ∧ i ∧ i ∧ q ∧ k ∧ i ∧ i ∧ i ∧ (v = true → i ∧ i ∧ i ∧ i ∧ h) ∧ (v = false → i ∧ i ∧ k ∧ q ∧ i ∧ i ∧ i ∧ i ∧ (m = true → i ∧ h) ∧ (m = false → d))) ∧ (l = false → i ∧ i ∧ d)) ∧ (¬u < t → ∃ (y : Unit), spB n f r a b = false ∧ i ∧ o ∧ i)) (i ∧ i ∧ k ∧ q ∧ i ∧ i ∧ (m = true → i ∧ i ∧ i ∧ i ∧ i ∧ k ∧ p ∧ i ∧ i ∧ i ∧ (w = true → i ∧ i ∧ i ∧ h) ∧ (w = false → i ∧ i ∧ p ∧ k ∧ i ∧ i ∧ i ∧ i ∧ (l = true → h) ∧ (l = false → g))) ∧ (m = false → i ∧ i ∧ g))) (List.getD (List.getD (mkR r) b e) c false)) (List.getD (List.getD (mkR r) c e) a false)) (!List.getD (List.getD s a e) c false)) (!List.getD (List.getD s c e) b false)) ([false, false, false, false, false, false, false])) (inR .i64 (u + 1) ∧ i ∧ ∃ (y : Nat), ((y ≤ n ∧ ∀ (j : Nat), j < y → spC f r a b j = false) ∧ n - y < n - c) ∧ (i ∧ (a : Int) = (a : Int) ∧ (b : Int) = (b : Int) ∧ i ∧ t = t ∧ u + 1 = (y : Int) ∧ i) ∧ o ∧ mkR r = mkR r ∧ i)) (i ∧ i ∧ (true = spB n f r a b ∧ i) ∧ o ∧ i)) (t = t ∧ s = s ∧ i)) (True)) (idxPre u (7 : Nat))) (idxPre (b : Int) (7 : Nat))) (idxPre (a : Int) (7 : Nat))) (mkR f)) ((n : Int))) ((c : Int))) (by kernel_rfl) ?_
 simp only [zz]
 obtain ⟨c1, c2⟩ := hc
 refine ⟨fun h1 => ?_, fun h1 => spB_no fun j hj => c2 j (by omega)⟩
 have h1 : c < n := by omega
 have yes : spC f r a b c = true → true = spB n f r a b := fun h => (spB_yes h1 h).symm
 have no : spC f r a b c = false → inR .i64 ((c : Int) + 1) ∧ ∃ y : Nat, ((y ≤ n ∧ ∀ j, j < y → spC f r a b j = false) ∧ n - y < n - c) ∧ (c : Int) + 1 = (y : Int) := fun h => ⟨in1 (by omega), c + 1, ⟨⟨by omega, fun j hj => by
   by_cases e : j = c
   · rw [e]; exact h
   · exact c2 j (by omega)⟩, by omega⟩, by omega⟩
 have ia := i7 ha
 have ib := i7 hb
 have ic := i7 (show c < 7 by omega)
 rw [rel_get r hb (by omega), rel_get r (by omega) ha, rel_get f ha (by omega), rel_get f (by omega) hb]
 generalize (inR .i64 ((c : Int) + 1) ∧ ∃ y : Nat, ((y ≤ n ∧ ∀ j, j < y → spC f r a b j = false) ∧ n - y < n - c) ∧ (c : Int) + 1 = (y : Int)) = N at no ⊢
 unfold spC at yes no
 generalize (true = spB n f r a b) = Y at yes ⊢
 clear c2
 (repeat' first | with_reducible exact trivial | with_reducible apply And.intro | intro _)
 all_goals first | exact ia | exact ib | exact ic | exact yes (by simp_all) | exact no (by simp_all)
theorem call49 (n : Nat) (hn : n ≤ 7) (f r : RF) (a b : Nat) (ha : a < 7) (hb : b < 7) : GCall Try.prog gl 49 true [.ptr 0 0 [], .ar Q7 7 (mkR r), .int .i64 a, .int .i64 b] [grO n f] [.bool (spB n f r a b)] [grO n f] := by
 refine gcall_of (X := X1) ((Xm_ok _ _ _)) (f := 49) (fn := Try.f49) (c := bodyOf Try.f49) (by kernel_rfl) (by kernel_rfl) (view := false) (rvs := [.tmp 8]) (by kernel_rfl) (H := (fun _ => some (h49 n f r a b))) 150 (by kernel_rfl) ?_
 have hL := loop49 n hn f r a b ha hb
 refine of_eq (q := (fun (d : Prop) => (fun (c : Int) => (fun (e : Prop) => d ∧ d ∧ d ∧ d ∧ d ∧ d ∧ d ∧ LoopOK X1 L49_0 (h49 n f r a b) (RetR X1 true false [ResultVar.tmp (8 : Tmp)] [AV.bool (spB n f r a b)] [grO c f]) ∧ (∃ (y : Nat), (y ≤ n ∧ ∀ (j : Nat), j < y → spC f r a b j = false) ∧ (d ∧ (a : Int) = (a : Int) ∧ (b : Int) = (b : Int) ∧ d ∧ c = c ∧ (0 : Int) = (y : Int) ∧ d) ∧ e ∧ mkR r = mkR r ∧ d) ∧ (∀ (y : Unit), spB n f r a b = false → d ∧ d ∧ (false = spB n f r a b ∧ d) ∧ e ∧ d) ∧ d) (c = c ∧ mkR f = mkR f ∧ d)) ((n : Int))) (True)) (by kernel_rfl) ?_
 simp only [zz]
 exact ⟨hL, ⟨0, ⟨Nat.zero_le _, fun j hj => absurd hj (Nat.not_lt_zero _)⟩, rfl⟩, fun _ h => h.symm⟩
def get49 (xs : List AV) (obs : List Ob) : Option ((Int × Rl) × Rl × Int × Int) :=
 match xs, unG (obs.getD 0 .gone) with
 | [_, .ar e _ ys, .int .i64 a, .int .i64 b], some g => (match castL e Q7 ys with
   | some zs => some (g, zs, a, b)
   | none => none)
 | _, _ => none
structure ok49 (x : (Int × Rl) × Rl × Int × Int) : Prop where
 g : okG x.1
 r : x.2.1 = mkR (rg x.2.1)
 a : 0 ≤ x.2.2.1 ∧ x.2.2.1 < 7
 b : 0 ≤ x.2.2.2 ∧ x.2.2.2 < 7
noncomputable def e49 : Entry Try.prog gl := entryW 49 ⟨Try.f49, by kernel_rfl, by kernel_rfl, by kernel_rfl⟩ true get49 ok49 true (fun x => [.ptr 0 0 [], .ar Q7 7 x.2.1, .int .i64 x.2.2.1, .int .i64 x.2.2.2]) (fun x => [grQ x.1]) (fun x => [.bool (spB x.1.1.toNat (rg x.1.2) (rg x.2.1) x.2.2.1.toNat x.2.2.2.toNat)]) (fun x => [grQ x.1]) (fun x h => by
 rw [grQ_ok h.g]
 have := call49 x.1.1.toNat (by have := h.g.n7; omega) (rg x.1.2) (rg x.2.1) x.2.2.1.toNat x.2.2.2.toNat (by have := h.a; omega) (by have := h.b; omega)
 rwa [← h.r, Int.toNat_of_nonneg h.a.1, Int.toNat_of_nonneg h.b.1] at this)
def sp1 (n : Nat) (f r : RF) (a b : Nat) : Bool := spB n f (upd r a b true) a b
def gw (n : Nat) (f : RF) : LP → RF → Nat
 | [], r => if trB r = true then 1 else 0
 | e :: l, r => (if sp1 n f r e.1.toNat e.2.toNat = true then 0 else gw n f l (upd r e.1.toNat e.2.toNat true)) + (if sp1 n f r e.2.toNat e.1.toNat = true then 0 else gw n f l (upd r e.2.toNat e.1.toNat true))
def hf (n : Nat) (f : RF) (l : LP) (r : RF) (a b : Nat) : Nat := if sp1 n f r a b = true then 0 else gw n f l (upd r a b true)
theorem gw_le (n : Nat) (f : RF) : ∀ (l : LP) (r : RF), gw n f l r ≤ 2 ^ l.length
 | [], r => by rw [gw]; split <;> simp
 | e :: l, r => by
   have h1 := gw_le n f l (upd r e.1.toNat e.2.toNat true)
   have h2 := gw_le n f l (upd r e.2.toNat e.1.toNat true)
   rw [gw, List.length_cons, Nat.pow_succ]
   split <;> split <;> omega
/-- The objects of the search: the list, the relation, the number, the graph, the search itself. -/
def gG (n : Nat) (f : RF) (l : LP) (r : RF) (v : Nat) : List Ob := [.bx (.sl P2 l), relO r, .bx (.int .i64 v), .bx (.ptr 4 0 []), grO n f, .bx (.clo 47 [] [.ptr 0 0 [], .ptr 1 0 [], .ptr 2 0 [], .ptr 3 0 [], .ptr 5 0 []])]
def aG (i : Int) : List AV := [.int .i64 i, .ptr 0 0 [], .ptr 1 0 [], .ptr 2 0 [], .ptr 3 0 [], .ptr 5 0 []]
structure okW (n : Nat) (f : RF) (l l1 l2 : LP) (r : RF) (v : Nat) : Prop where
 n1 : 1 ≤ n
 hn : n ≤ 7
 e : l = l1 ++ l2
 h2 : ∀ y, y ∈ l2 → (0 ≤ y.1 ∧ y.1 < 7) ∧ (0 ≤ y.2 ∧ y.2 < 7) ∧ ¬ y.1 = y.2 ∧ r y.1.toNat y.2.toNat = false ∧ r y.2.toNat y.1.toNat = false
 nd : l2.Pairwise fun y z => ¬ (y.1 = z.1 ∧ y.2 = z.2) ∧ ¬ (y.1 = z.2 ∧ y.2 = z.1)
 hl : l.length ≤ 21
 v : v + 2 ^ l2.length ≤ 1000000000
def GS (n : Nat) (f : RF) (l : LP) (d : Nat) : Prop := ∀ l1 l2 r v, l2.length = d → okW n f l l1 l2 r v → GCall Try.prog gl 47 false (aG l1.length) (gG n f l r v) [] (gG n f l r (v + gw n f l2 r))
def unRl : Ob → Option Rl
 | .bx (.ar e _ ys) => castL e Q7 ys
 | _ => none
def get47 (xs : List AV) (obs : List Ob) : Option (Int × Rl × Int) :=
 match xs, unRl (obs.getD 1 .gone), unI (obs.getD 2 .gone) with
 | .int .i64 i :: _, some r, some v => some (i, r, v)
 | _, _, _ => none
structure ok47 (n : Nat) (f : RF) (l : LP) (d : Nat) (x : Int × Rl × Int) : Prop where
 i : 0 ≤ x.1
 d : x.1.toNat + d = l.length
 r : x.2.1 = mkR (rg x.2.1)
 v : 0 ≤ x.2.2
 w : okW n f l (l.take x.1.toNat) (l.drop x.1.toNat) (rg x.2.1) x.2.2.toNat
def gQ (n : Nat) (f : RF) (l : LP) (xs : Rl) (v : Int) : List Ob := [.bx (.sl P2 l), .bx (.ar Q7 7 xs), .bx (.int .i64 v), .bx (.ptr 4 0 []), grO n f, .bx (.clo 47 [] [.ptr 0 0 [], .ptr 1 0 [], .ptr 2 0 [], .ptr 3 0 [], .ptr 5 0 []])]
noncomputable def e47 (n : Nat) (f : RF) (l : LP) (d : Nat) (h : GS n f l d) : Entry Try.prog gl := entryW 47 ⟨Try.f47, by kernel_rfl, by kernel_rfl, by kernel_rfl⟩ true get47 (ok47 n f l d) false (fun x => aG x.1) (fun x => gQ n f l x.2.1 x.2.2) (fun _ => []) (fun x => gQ n f l x.2.1 (x.2.2 + (gw n f (l.drop x.1.toNat) (rg x.2.1) : Nat))) (fun x hx => by
 have := h (l.take x.1.toNat) (l.drop x.1.toNat) (rg x.2.1) x.2.2.toNat (by rw [List.length_drop]; have := hx.d; omega) hx.w
 unfold gG relO at this
 rw [← hx.r, List.length_take, show min x.1.toNat l.length = x.1.toNat by have := hx.d; omega, Int.toNat_of_nonneg hx.i, Int.natCast_add, Int.toNat_of_nonneg hx.v] at this
 exact this)
noncomputable def L47_0 : Code := lp (bodyOf Try.f47) 0
def sA (a b : Nat) (j : Nat) : Nat := if j % 2 = 0 then a else b
def ps (n : Nat) (f : RF) (l : LP) (r : RF) (a b : Nat) : Nat → Nat
 | 0 => 0
 | j + 1 => ps n f l r a b j + hf n f l r (sA a b j) (sA b a j)
noncomputable abbrev X47 (n : Nat) (f : RF) (l : LP) (d : Nat) (h : GS n f l d) : Cy := Xm [e48, e49, e47 n f l d h] 6 (fun _ => none)
def st47 (n : Nat) (f : RF) (l l2 : LP) (r : RF) (v i a b : Nat) (j : Nat) : St := ⟨(.int .i64 i :: .dead :: .ptr 1 0 [] :: .dead :: .ptr 3 0 [] :: .ptr 5 0 [] :: .dead :: .int .i64 (sA a b j) :: .int .i64 (sA b a j) :: dd 18 ++ .int .i64 j :: dd 22), gG n f l r (v + ps n f l2 r a b j)⟩
def ex47 (n : Nat) (f : RF) (l l2 : LP) (r : RF) (v a b : Nat) : List (List Nat × Ex) := [([], ⟨0, Unit, fun _ => True, fun _ => ⟨(dd 50), gG n f l r (v + ps n f l2 r a b 2)⟩⟩)]
def h47 (n : Nat) (f : RF) (l l2 : LP) (r : RF) (v i a b : Nat) : Hint := ⟨chk 6 [0, 2, 4, 5, 7, 8, 27] (fun j => j ≤ 2) (st47 n f l l2 r v i a b), (ex47 n f l l2 r v a b).map (·.2)⟩
theorem spB_ext {n : Nat} (hn : n ≤ 7) {f g r s : RF} (hf : ∀ x y, x < 7 → y < 7 → f x y = g x y) (hr : ∀ x y, x < 7 → y < 7 → r x y = s x y) {a b : Nat} (ha : a < 7) (hb : b < 7) : spB n f r a b = spB n g s a b := by
 have e : ∀ c, c < 7 → spC f r a b c = spC g s a b c := fun c hc => by
   unfold spC
   rw [hf a c ha hc, hf c b hc hb, hr b c hb hc, hr c a hc ha]
 rw [Bool.eq_iff_iff]
 unfold spB
 rw [List.any_eq_true, List.any_eq_true]
 exact ⟨fun ⟨c, h1, h2⟩ => ⟨c, h1, by rw [← e c (by have := List.mem_range.mp h1; omega)]; exact h2⟩, fun ⟨c, h1, h2⟩ => ⟨c, h1, by rw [e c (by have := List.mem_range.mp h1; omega)]; exact h2⟩⟩
theorem upd_ext {r s : RF} (hr : ∀ x y, x < 7 → y < 7 → r x y = s x y) (a b : Nat) (v : Bool) : ∀ x y, x < 7 → y < 7 → upd r a b v x y = upd s a b v x y := fun x y hx hy => by unfold upd; rw [hr x y hx hy]
theorem gw_ext {n : Nat} (hn : n ≤ 7) {f g : RF} (hf : ∀ x y, x < 7 → y < 7 → f x y = g x y) : ∀ {l : LP} {r s : RF}, (∀ y, y ∈ l → (0 ≤ y.1 ∧ y.1 < 7) ∧ (0 ≤ y.2 ∧ y.2 < 7)) → (∀ x y, x < 7 → y < 7 → r x y = s x y) → gw n f l r = gw n g l s
 | [], r, s, _, hr => by rw [gw, gw, trB_ext hr]
 | e :: l, r, s, hl, hr => by
   have h0 := hl e (by simp)
   have hl' := fun y (hy : y ∈ l) => hl y (by simp [hy])
   rw [gw, gw, gw_ext hn hf hl' (upd_ext hr _ _ _), gw_ext hn hf hl' (upd_ext hr _ _ _)]
   unfold sp1
   rw [spB_ext hn hf (upd_ext hr _ _ _) (by omega) (by omega), spB_ext hn hf (upd_ext hr _ _ _) (by omega) (by omega)]
theorem sA_cases {a b j : Nat} (hj : j < 2) : (j = 0 ∧ sA a b j = a ∧ sA b a j = b) ∨ (j = 1 ∧ sA a b j = b ∧ sA b a j = a) := by
 rcases show j = 0 ∨ j = 1 by omega with rfl | rfl
 · exact .inl ⟨rfl, rfl, rfl⟩
 · exact .inr ⟨rfl, rfl, rfl⟩
theorem hf_le (n : Nat) (f : RF) (l : LP) (r : RF) (a b : Nat) : hf n f l r a b ≤ 2 ^ l.length := by
 unfold hf
 split
 · exact Nat.zero_le _
 · exact gw_le n f l _
theorem upd_back {r : RF} {a b : Nat} (h : r a b = false) : mkR (upd (upd r a b true) a b false) = mkR r := mkR_ext fun x y _ _ => by
 unfold upd
 by_cases e : x = a ∧ y = b
 · rw [if_pos e, e.1, e.2, h]
 · rw [if_neg e, if_neg e]
theorem okW_next {n : Nat} {f : RF} {l l1 l2 : LP} {e : PA} {r : RF} {v w A B : Nat} (hw : okW n f l l1 (e :: l2) r v) (hAB : (A = e.1.toNat ∧ B = e.2.toNat) ∨ (A = e.2.toNat ∧ B = e.1.toNat)) (hv : w + 2 ^ l2.length ≤ 1000000000) : okW n f l (l1 ++ [e]) l2 (upd r A B true) w := by
 have h0 := hw.h2 e (by simp)
 have hnd := List.pairwise_cons.mp hw.nd
 refine ⟨hw.n1, hw.hn, by rw [hw.e]; simp, fun y hy => ?_, hnd.2, hw.hl, hv⟩
 obtain ⟨g1, g2, g3, g4, g5⟩ := hw.h2 y (by simp [hy])
 have gn := hnd.1 y hy
 refine ⟨g1, g2, g3, ?_, ?_⟩
 · unfold upd; rw [if_neg (by omega)]; exact g4
 · unfold upd; rw [if_neg (by omega)]; exact g5
theorem loop47 (n : Nat) (f : RF) (l : LP) (d : Nat) (h : GS n f l d) (l1 l2 : LP) (e : PA) (r : RF) (v : Nat) (hd : l2.length = d) (hw : okW n f l l1 (e :: l2) r v) (R : Exit → St → Prop) : LoopOK (X47 n f l d h) L47_0 (h47 n f l l2 r v l1.length e.1.toNat e.2.toNat) R := by
 refine loop_ok (Xm_ok _ _ _) (H := fun _ _ => none) [0, 2, 4, 5, 7, 8, 27] (fun j => j ≤ 2) (st47 n f l l2 r v l1.length e.1.toNat e.2.toNat) (fun j => 2 - j) (ex47 n f l l2 r v e.1.toNat e.2.toNat) 250 fun (j : Nat) hj => ?_
 refine of_eq (q := (fun (A : Nat) => (fun (z : Int) => (fun (x : Rl) => (fun (u : Int) => (fun (t : Rl) => (fun (p : Nat) => (fun (o : Nat) => (fun (m : List Bool) => (fun (k : Int) => (fun (E : Int) => (fun (i : Prop) => (fun (w : Prop) => (fun (h : Int) => (fun (g : Nat) => (fun (q : Int) => (fun (D : Prop) => (fun (c : Prop) => (fun (b : Nat) => (fun (s : Int) => (fun (C : Prop) => (fun (a : List (List Bool)) => (fun (B : Prop) => i ∧ ((j : Int) < 2 → i ∧ i ∧ C ∧ D ∧ i ∧ i ∧ i ∧ i ∧ i ∧ ((ok49 ((z, t), a, s, q) ∧ (i ∧ a = a ∧ s = s ∧ q = q ∧ i) ∧ (z = z ∧ t = t ∧ i) ∧ i) ∧ i ∧ i) ∧ i ∧ ((!spB n (rg t) (rg a) b g) = true → i ∧ i ∧ inR .i64 E ∧ ((ok47 n f l d (E, a, h) ∧ (E = E ∧ w) ∧ l = l ∧ a = a ∧ h = h ∧ c) ∧ i ∧ w) ∧ i ∧ i ∧ C ∧ D ∧ i ∧ i ∧ i ∧ i ∧ i ∧ inR .i64 u ∧ i ∧ ∃ (y : Nat), (y ≤ A ∧ A - y < A - j) ∧ (k = k ∧ i ∧ i ∧ i ∧ q = (↑(sA p o y) : Int) ∧ s = (↑(sA o p y) : Int) ∧ u = (y : Int) ∧ i) ∧ l = l ∧ B ∧ h + (↑(gw n f (List.drop (List.length l1 + 1) l) (rg a)) : Int) = (v : Int) + (↑(ps n f l2 r p o y) : Int) ∧ c) ∧ ((!spB n (rg t) (rg a) b g) = false → i ∧ i ∧ C ∧ D ∧ i ∧ i ∧ i ∧ i ∧ i ∧ inR .i64 u ∧ i ∧ ∃ (y : Nat), (y ≤ A ∧ A - y < A - j) ∧ (k = k ∧ i ∧ i ∧ i ∧ q = (↑(sA p o y) : Int) ∧ s = (↑(sA o p y) : Int) ∧ u = (y : Int) ∧ i) ∧ l = l ∧ B ∧ h = (v : Int) + (↑(ps n f l2 r p o y) : Int) ∧ c)) ∧ (¬(j : Int) < 2 → ∃ (y : Unit), i ∧ i ∧ l = l ∧ x = x ∧ h = (v : Int) + (↑(ps n f l2 r p o A) : Int) ∧ c)) (a.set b (List.set (a.getD b m) g false) = x)) (List.set x b (List.set (List.getD x b m) g true))) (idxPre s (7 : Nat))) ((b : Int))) (sA p o j)) (i ∧ (z = z ∧ t = t ∧ i) ∧ (i ∧ w) ∧ i)) (idxPre q (7 : Nat))) ((g : Int))) (sA o p j)) ((v : Int) + (↑(ps n f l2 r p o j) : Int))) (i ∧ i ∧ i ∧ i ∧ i ∧ i)) (True)) (k + 1)) ((↑(List.length l1) : Int))) ([false, false, false, false, false, false, false])) (e.snd.toNat)) (e.fst.toNat)) (mkR f)) ((j : Int) + 1)) (mkR r)) ((n : Int))) ((2 : Nat))) (by kernel_rfl) ?_
 simp only [zz]
 obtain ⟨g1, g2, g3, g4, g5⟩ := hw.h2 e (by simp)
 have hv := hw.v
 have hn := hw.hn
 have hpl : 2 ^ (e :: l2).length = 2 ^ l2.length + 2 ^ l2.length := by rw [List.length_cons, Nat.pow_succ]; omega
 have hps : ∀ i, i ≤ 2 → ps n f l2 r e.1.toNat e.2.toNat i ≤ i * 2 ^ l2.length := fun i => by
   induction i with
   | zero => intro _; exact Nat.zero_le _
   | succ i ih =>
     intro hi
     have := ih (by omega)
     have := hf_le n f l2 r (sA e.1.toNat e.2.toNat i) (sA e.2.toNat e.1.toNat i)
     rw [ps, Nat.succ_mul]; omega
 refine ⟨fun h1 => ?_, fun h1 => by rw [show j = 2 by omega]⟩
 have h1 : j < 2 := by omega
 have hp := hps j hj
 have hstep : ps n f l2 r e.1.toNat e.2.toNat (j + 1) = ps n f l2 r e.1.toNat e.2.toNat j + hf n f l2 r (sA e.1.toNat e.2.toNat j) (sA e.2.toNat e.1.toNat j) := rfl
 have hsw : sA e.2.toNat e.1.toNat j = sA e.1.toNat e.2.toNat (j + 1) ∧ sA e.1.toNat e.2.toNat j = sA e.2.toNat e.1.toNat (j + 1) := by
   rcases show j = 0 ∨ j = 1 by omega with rfl | rfl <;> exact ⟨rfl, rfl⟩
 have hAB : (sA e.1.toNat e.2.toNat j = e.1.toNat ∧ sA e.2.toNat e.1.toNat j = e.2.toNat) ∨ (sA e.1.toNat e.2.toNat j = e.2.toNat ∧ sA e.2.toNat e.1.toNat j = e.1.toNat) := by
   rcases sA_cases (a := e.1.toNat) (b := e.2.toNat) h1 with ⟨_, h⟩ | ⟨_, h⟩
   · exact .inl h
   · exact .inr h
 rw [hsw.1, hsw.2]
 rw [hsw.1, hsw.2] at hAB hstep
 generalize eB : sA e.1.toNat e.2.toNat (j + 1) = B at hAB hstep ⊢
 generalize eA : sA e.2.toNat e.1.toNat (j + 1) = A at hAB hstep ⊢
 have hA : A < 7 := by omega
 have hB : B < 7 := by omega
 have hr0 : r A B = false := by
   rcases hAB with ⟨rfl, rfl⟩ | ⟨rfl, rfl⟩
   · exact g4
   · exact g5
 have hlen : l.length = l1.length + (l2.length + 1) := by rw [hw.e]; simp
 have hll := hw.hl
 have hmul : j * 2 ^ l2.length + 2 ^ l2.length ≤ 2 ^ l2.length + 2 ^ l2.length := by
   generalize 2 ^ l2.length = P
   rcases show j = 0 ∨ j = 1 by omega with rfl | rfl
   · omega
   · omega
 have edr : l.drop (l1.length + 1) = l2 := by rw [hw.e, show l1 ++ e :: l2 = (l1 ++ [e]) ++ l2 by simp]; exact List.drop_left' (by simp)
 have etk : l.take (l1.length + 1) = l1 ++ [e] := by rw [hw.e, show l1 ++ e :: l2 = (l1 ++ [e]) ++ l2 by simp]; exact List.take_left' (by simp)
 rw [mkR_set hA, mkR_set hA, edr, upd_back hr0]
 have eg1 : gw n f l2 (rg (mkR (upd r A B true))) = gw n f l2 (upd r A B true) := gw_ext hn (fun _ _ _ _ => rfl) (fun y hy => by have := hw.h2 y (by simp [hy]); exact ⟨this.1, this.2.1⟩) rgm
 have esp : spB n (rg (mkR f)) (rg (mkR (upd r A B true))) A B = sp1 n f r A B := spB_ext hn rgm rgm hA hB
 rw [eg1, esp]
 have iA := i7 hA
 have iB := i7 hB
 refine ⟨iA, iB, ⟨okG_mk hw.n1 hn f, mk_rg _, by simp only; omega, by simp only; omega⟩, fun h2 => ?_, fun h2 => ⟨iA, iB, in1 (by omega), j + 1, ⟨by omega, by omega⟩, ⟨by rw [eB], by rw [eA], by omega⟩, ?_⟩⟩
 · have h2 := nt1 h2
   unfold hf at hstep
   rw [if_neg (by rw [h2]; decide)] at hstep
   have hpos : 0 < 2 ^ l2.length := Nat.two_pow_pos _
   have hwv : v + ps n f l2 r e.1.toNat e.2.toNat j + 2 ^ l2.length ≤ 1000000000 := by omega
   have hwn := okW_next hw hAB (v := v) (w := v + ps n f l2 r e.1.toNat e.2.toNat j) hwv
   generalize 2 ^ l2.length = P at hpos hwv
   clear hv hpl hmul hps hp
   refine ⟨by simp only [inR]; omega, ⟨by simp only; omega, ?_, mk_rg _, by simp only; omega, ?_⟩, iA, iB, in1 (by omega), j + 1, ⟨by omega, by omega⟩, ⟨by rw [eB], by rw [eA], by omega⟩, rfl, by rw [hstep]; omega⟩
   · simp only; omega
   · simp only
     rw [show ((l1.length : Int) + 1).toNat = l1.length + 1 by omega, edr, etk, show ((v : Int) + (ps n f l2 r e.1.toNat e.2.toNat j : Nat)).toNat = v + ps n f l2 r e.1.toNat e.2.toNat j by omega]
     refine ⟨hwn.n1, hwn.hn, hwn.e, fun y hy => ?_, hwn.nd, hwn.hl, hwn.v⟩
     obtain ⟨k1, k2, k3, k4, k5⟩ := hwn.h2 y hy
     rw [rg_mk (by omega) (by omega), rg_mk (by omega) (by omega)]
     exact ⟨k1, k2, k3, k4, k5⟩
 · have h2 := nt0 h2
   unfold hf at hstep
   rw [if_pos h2] at hstep
   exact ⟨rfl, by rw [hstep]; omega⟩
theorem call47Z (n : Nat) (f : RF) (l : LP) : GS n f l 0 := by
 intro l1 l2 r v hd hw
 refine gcall_of (X := (Xm [e48] 6 (fun _ => none))) ((Xm_ok _ _ _)) (f := 47) (fn := Try.f47) (c := bodyOf Try.f47) (by kernel_rfl) (by kernel_rfl) (view := false) (rvs := []) (by kernel_rfl) (H := fun _ => none) 150 (by kernel_rfl) ?_
 refine of_eq (q := (fun (e : Int) => (fun (d : Int) => (fun (c : Prop) => (fun (b : Rl) => (fun (a : Prop) => c ∧ c ∧ c ∧ c ∧ (d = (↑(List.length l) : Int) → c ∧ (b = mkR (rg b) ∧ c) ∧ (trB (rg b) = true → c ∧ inR .i64 ((v : Int) + 1) ∧ c ∧ c ∧ c ∧ l = l ∧ b = b ∧ (v : Int) + 1 = e ∧ a) ∧ (trB (rg b) = false → c ∧ c ∧ l = l ∧ b = b ∧ (v : Int) = e ∧ a)) ∧ (¬d = (↑(List.length l) : Int) → c ∧ c ∧ idxPre d (List.length l) ∧ idxPre (0 : Int) (2 : Nat) ∧ c ∧ c ∧ c ∧ idxPre d (List.length l) ∧ idxPre (1 : Int) (2 : Nat) ∧ c ∧ c ∧ c ∧ c ∧ False)) (c ∧ ((n : Int) = (n : Int) ∧ mkR f = mkR f ∧ c) ∧ (c ∧ c ∧ c ∧ c ∧ c ∧ c ∧ c) ∧ c)) (mkR r)) (True)) ((↑(List.length l1) : Int))) ((v : Int) + (↑(gw n f l2 r) : Int))) (by kernel_rfl) ?_
 simp only [zz]
 have e2 : l2 = [] := List.length_eq_zero_iff.mp hd
 have hv := hw.v
 have hlen : l.length = l1.length := by rw [hw.e, e2]; simp
 subst e2
 rw [trB_ext (rgm (f := r)), gw]
 rw [List.length_nil] at hv
 refine ⟨fun _ => ⟨mk_rg r, fun h => ?_, fun h => ?_⟩, fun h => by omega⟩
 · rw [if_pos h]; exact ⟨by simp only [inR]; omega, by omega⟩
 · rw [if_neg (by rw [h]; decide)]; omega
theorem call47S (n : Nat) (f : RF) (l : LP) (d : Nat) (h : GS n f l d) : GS n f l (d + 1) := by
 intro l1 l2 r v hd hw
 match l2, hd, hw with
 | e :: l2, hd, hw =>
   refine gcall_of (X := (X47 n f l d h)) ((Xm_ok _ _ _)) (f := 47) (fn := Try.f47) (c := bodyOf Try.f47) (by kernel_rfl) (by kernel_rfl) (view := false) (rvs := []) (by kernel_rfl) (H := (fun _ => some (h47 n f l l2 r v l1.length e.1.toNat e.2.toNat))) 150 (by kernel_rfl) ?_
   have hL := fun R => loop47 n f l d h l1 l2 e r v (by simpa using hd) hw R
   refine of_eq (q := (fun (o : Int × Int) => (fun (m : Nat) => (fun (k : Nat) => (fun (j : Int) => (fun (i : Int) => (fun (g : Prop) => (fun (c : Int) => (fun (b : Rl) => (fun (a : Prop) => g ∧ g ∧ g ∧ g ∧ (c = (↑(List.length l) : Int) → g ∧ (b = mkR (rg b) ∧ g) ∧ (trB (rg b) = true → g ∧ inR .i64 (j + 1) ∧ g ∧ g ∧ g ∧ l = l ∧ b = b ∧ j + 1 = i ∧ a) ∧ (trB (rg b) = false → g ∧ g ∧ l = l ∧ b = b ∧ j = i ∧ a)) ∧ (¬c = (↑(List.length l) : Int) → g ∧ g ∧ idxPre c (List.length l) ∧ idxPre (0 : Int) (2 : Nat) ∧ g ∧ g ∧ g ∧ idxPre c (List.length l) ∧ idxPre (1 : Int) (2 : Nat) ∧ g ∧ g ∧ g ∧ g ∧ LoopOK (X47 n f l d h) L47_0 (h47 n f l l2 r v (List.length l1) k m) (RetR (X47 n f l d h) false false [] [] (gG n f l r (v + gw n f (e :: l2) r))) ∧ (∃ (y : Nat), y ≤ 2 ∧ (c = c ∧ g ∧ g ∧ g ∧ o.fst = (↑(sA k m y) : Int) ∧ o.snd = (↑(sA m k y) : Int) ∧ (0 : Int) = (y : Int) ∧ g) ∧ l = l ∧ b = b ∧ j = j + (↑(ps n f l2 r k m y) : Int) ∧ a) ∧ (∀ (y : Unit), g → g ∧ g ∧ l = l ∧ b = b ∧ j + (↑(ps n f l2 r k m (2 : Nat)) : Int) = i ∧ a) ∧ g)) (g ∧ ((n : Int) = (n : Int) ∧ mkR f = mkR f ∧ g) ∧ (g ∧ g ∧ g ∧ g ∧ g ∧ g ∧ g) ∧ g)) (mkR r)) ((↑(List.length l1) : Int))) (True)) (j + (↑(gw n f (e :: l2) r) : Int))) ((v : Int))) (e.fst.toNat)) (e.snd.toNat)) (List.getD l (List.length l1) ((0 : Int), (0 : Int)))) (by kernel_rfl) ?_
   simp only [zz]
   have hlen : l.length = l1.length + (l2.length + 1) := by rw [hw.e]; simp
   have hg : l.getD l1.length (0, 0) = e := by rw [hw.e, List.getD_eq_getElem?_getD, List.getElem?_append_right (Nat.le_refl _)]; simp
   obtain ⟨g1, g2, _⟩ := hw.h2 e (by simp)
   rw [hg]
   refine ⟨fun h => by omega, fun _ => ⟨by unfold idxPre; omega, i02, by unfold idxPre; omega, i12, hL _, ⟨0, by omega, ⟨by show e.1 = (e.1.toNat : Int); omega, by show e.2 = (e.2.toNat : Int); omega, rfl⟩, by simp [ps]⟩, fun _ _ => ?_⟩⟩
   rw [gw, ps, ps, ps]
   unfold hf
   rw [Nat.zero_add]; try rfl
theorem GS_all (n : Nat) (f : RF) (l : LP) : ∀ d, GS n f l d
 | 0 => call47Z n f l
 | d + 1 => call47S n f l d (GS_all n f l d)
/-- The number of orders. -/
def ctN (n : Nat) (l : LP) : Nat := gw n (eg l) (L46 n (eg l)) zf
theorem L46_mem {n : Nat} {f : RF} {y : PA} : y ∈ L46 n f ↔ ∃ a b : Nat, y = ((a : Int), (b : Int)) ∧ a < b ∧ b < n ∧ b < 7 ∧ f a b = true := by
 unfold L46
 rw [prK_mem (by decide)]
 constructor
 · rintro ⟨a, b, h1, h2, h3, h4⟩
   simp only [P46, Bool.and_eq_true, decide_eq_true_eq] at h4
   exact ⟨a, b, h1, h4.1.1, h4.1.2, h2, h4.2⟩
 · rintro ⟨a, b, h1, h2, h3, h5, h4⟩
   exact ⟨a, b, h1, h5, by omega, by unfold P46; rw [decide_eq_true h2, decide_eq_true h3, h4]; rfl⟩
theorem prK_nd {P : RF} {w : Nat} (hw : 0 < w) : ∀ q, (prK P w q).Nodup
 | 0 => by simp [prK]
 | q + 1 => by
   have ih := prK_nd (P := P) hw q
   rw [prK]
   split
   · rw [List.nodup_append]
     refine ⟨ih, by simp, fun a ha b hb e => ?_⟩
     rw [List.mem_singleton] at hb
     rw [e, hb] at ha
     obtain ⟨i, j, h1, h2, h3, _⟩ := (prK_mem hw).mp ha
     have hq : q / w * w + q % w = q := by rw [Nat.mul_comm]; exact Nat.div_add_mod q w
     have e1 : q / w = i := by have := congrArg Prod.fst h1; simp only at this; omega
     have e2 : q % w = j := by have := congrArg Prod.snd h1; simp only at this; omega
     rw [e1, e2] at hq
     omega
   · exact ih
theorem tri_len {P : RF} (hP : ∀ x y, P x y = true → x < y) : (prK P 7 49).length ≤ 21 := by
 have h1 := prK_le (P := fun x y => decide (x < y)) (Q := P) (w := 7) (fun x y h => decide_eq_true (hP x y h)) 49
 have h2 : (prK (fun x y => decide (x < y)) 7 49).length = 21 := by decide +kernel
 omega
theorem okW_0 {n : Nat} (n1 : 1 ≤ n) (hn : n ≤ 7) (f : RF) : okW n f (L46 n f) [] (L46 n f) zf 0 := by
 have hlen : (L46 n f).length ≤ 21 := tri_len fun x y h => by
   simp only [P46, Bool.and_eq_true, decide_eq_true_eq] at h
   exact h.1.1
 refine ⟨n1, hn, rfl, fun y hy => ?_, ?_, hlen, ?_⟩
 · obtain ⟨a, b, h1, h2, h3, _, _⟩ := L46_mem.mp hy
   rw [h1]
   refine ⟨?_, ?_, ?_, rfl, rfl⟩ <;> (simp only; omega)
 · have hnd := prK_nd (P := P46 n f) (w := 7) (by decide) 49
   refine List.Pairwise.imp_of_mem ?_ hnd
   intro y z hy hz hne
   obtain ⟨a, b, h1, h2, _⟩ := L46_mem.mp hy
   obtain ⟨c, d, h3, h4, _⟩ := L46_mem.mp hz
   rw [h1, h3]
   refine ⟨fun h => hne (by rw [h1, h3]; exact Prod.ext h.1 h.2), fun h => ?_⟩
   simp only at h
   omega
 · have := Nat.pow_le_pow_right (show 0 < 2 by omega) hlen
   omega
theorem call11 (n : Nat) (l : LP) (h : grOk n l) (h6 : n ≤ 6) : GCall Try.prog gl 11 false [.int .i64 n, .sl P2 l] [] [.int .i64 (ctN n l), .int .i64 0] [] := by
 refine gcall_of (X := (X [e45, e46, e47 n (eg l) (L46 n (eg l)) (L46 n (eg l)).length (GS_all _ _ _ _)])) ((X_ok _)) (f := 11) (fn := Try.f11) (c := bodyOf Try.f11) (by kernel_rfl) (by kernel_rfl) (view := false) (rvs := [.tmp 4, .tmp 5]) (by kernel_rfl) (H := fun _ => none) 150 (by kernel_rfl) ?_
 obtain ⟨n1, n2⟩ := h.hn
 refine of_eq (q := (fun (h : Int) => (fun (f : LP) => (fun (e : Int) => (fun (d : Rl) => (fun (c : Int) => (fun (b : Prop) => (fun (g : Prop) => (fun (a : List Bool) => (fun (i : List (List Bool)) => b ∧ b ∧ b ∧ b ∧ (grOk e l ∧ b) ∧ b ∧ b ∧ b ∧ b ∧ b ∧ b ∧ b ∧ b ∧ (¬c = c → b ∧ b ∧ b ∧ b ∧ (c = h ∧ c = c ∧ b) ∧ b) ∧ (¬¬c = c → b ∧ b ∧ ((6 : Int) < e → b ∧ b ∧ b ∧ (c = h ∧ (1 : Int) = c ∧ b) ∧ b) ∧ (¬(6 : Int) < e → b ∧ ((okG (e, d) ∧ (b ∧ b) ∧ (e = e ∧ d = d ∧ b) ∧ b) ∧ b ∧ b) ∧ b ∧ b ∧ b ∧ b ∧ b ∧ b ∧ b ∧ b ∧ b ∧ ((ok47 n (eg l) f (List.length f) (c, i, c) ∧ (c = c ∧ g) ∧ L46 n (rg d) = f ∧ i = i ∧ c = c ∧ b ∧ (e = e ∧ d = d ∧ b) ∧ (b ∧ g) ∧ b) ∧ b ∧ g) ∧ b ∧ b ∧ b ∧ b ∧ (c + (↑(gw n (eg l) (List.drop (0 : Nat) f) (rg i)) : Int) = h ∧ c = c ∧ b) ∧ b))) ([a, a, a, a, a, a, a])) ([false, false, false, false, false, false, false])) (b ∧ b ∧ b ∧ b ∧ b ∧ b)) (True)) ((0 : Int))) (mkR (eg l))) ((n : Int))) (L46 n (eg l))) ((↑(ctN n l) : Int))) (by kernel_rfl) ?_
 simp only [zz]
 have hw := okW_0 (n := n) (by omega) (by omega) (eg l)
 have eZ : ([w7, w7, w7, w7, w7, w7, w7] : Rl) = mkR zf := zR.symm
 have hrg : ∀ x y, x < 7 → y < 7 → rg [w7, w7, w7, w7, w7, w7, w7] x y = zf x y := by rw [eZ]; exact rgm
 have h2 : ∀ y, y ∈ L46 n (eg l) → (0 ≤ y.1 ∧ y.1 < 7) ∧ (0 ≤ y.2 ∧ y.2 < 7) := fun y hy => ⟨(hw.h2 y hy).1, (hw.h2 y hy).2.1⟩
 rw [L46_ext (rgm (f := eg l)), List.drop_zero, gw_ext (by omega) (fun _ _ _ _ => rfl) h2 hrg]
 refine ⟨h, fun h1 => absurd trivial h1, fun _ => ⟨fun h1 => by omega, fun _ => ⟨okG_mk (by omega) (by omega) _, ⟨⟨Int.le_refl _, by show (0 : Int).toNat + _ = _; simp, ?_, Int.le_refl _, ?_⟩, rfl⟩, by unfold ctN; omega⟩⟩⟩
 · show [w7, w7, w7, w7, w7, w7, w7] = mkR (rg [w7, w7, w7, w7, w7, w7, w7])
   rw [mkR_ext hrg]; exact eZ
 · show okW n (eg l) _ ((L46 n (eg l)).take 0) ((L46 n (eg l)).drop 0) (rg [w7, w7, w7, w7, w7, w7, w7]) 0
   refine ⟨hw.n1, hw.hn, rfl, fun y hy => ?_, hw.nd, hw.hl, hw.v⟩
   obtain ⟨k1, k2, k3, k4, k5⟩ := hw.h2 y hy
   rw [hrg _ _ (by omega) (by omega), hrg _ _ (by omega) (by omega)]
   exact ⟨k1, k2, k3, k4, k5⟩
end Go.Am.Or

/- Orders: entries; lists that are the same; awake. -/
namespace Go.Am.Or
open Go Go.Am Go.Proofs
theorem toN {n : Int} {l : LP} (h : grOk n l) : ((n.toNat : Nat) : Int) = n := by have := h.hn; omega
theorem toO {n : Int} {l : LP} (h : orOk n l) : ((n.toNat : Nat) : Int) = n := by have := h.hn; omega
def e24 : Entry Try.prog gl := entry2 24 ⟨Try.f24, by kernel_rfl, by kernel_rfl, by kernel_rfl⟩ I64 SP (fun (n : Int) l => grOk n l) false (fun (n : Int) l => [.sl P2 (orL n.toNat l), .bool (orR n.toNat (eg l)).2, .int .i64 0]) (fun _ _ => []) (fun (n : Int) l h => by have := call24 n.toNat l (by rw [toN h]; exact h); rwa [toN h] at this)
def e14 : Entry Try.prog gl := entry2 14 ⟨Try.f14, by kernel_rfl, by kernel_rfl, by kernel_rfl⟩ I64 SP (fun (n : Int) l => grOk n l) false (fun (n : Int) l => [.ar SI 2 [(drL n.toNat l).1, (drL n.toNat l).2], .bool (drB n.toNat l), .int .i64 0]) (fun _ _ => []) (fun (n : Int) l h => by have := call14 n.toNat l (by rw [toN h]; exact h); rwa [toN h] at this)
def e25 : Entry Try.prog gl := entry2 25 ⟨Try.f25, by kernel_rfl, by kernel_rfl, by kernel_rfl⟩ I64 SP (fun (n : Int) l => grOk n l) false (fun (n : Int) l => [.sl P2 (ckL n.toNat l), .bool (ckB n.toNat l), .int .i64 0]) (fun _ _ => []) (fun (n : Int) l h => by have := call25 n.toNat l (by rw [toN h]; exact h); rwa [toN h] at this)
def e11 : Entry Try.prog gl := entry2 11 ⟨Try.f11, by kernel_rfl, by kernel_rfl, by kernel_rfl⟩ I64 SP (fun (n : Int) l => grOk n l ∧ n ≤ 6) false (fun (n : Int) l => [.int .i64 (ctN n.toNat l), .int .i64 0]) (fun _ _ => []) (fun (n : Int) l h => by have := call11 n.toNat l (by rw [toN h.1]; exact h.1) (by have := h.2; omega); rwa [toN h.1] at this)
def e32 : Entry Try.prog gl := entry2 32 ⟨Try.f32, by kernel_rfl, by kernel_rfl, by kernel_rfl⟩ I64 SP (fun (n : Int) l => orOk n l) false (fun (n : Int) l => [.sl I64 (lyS (adL zf l) n.toNat n.toNat), .int .i64 0]) (fun _ _ => []) (fun (n : Int) l h => by have := call32 n.toNat l (by rw [toO h]; exact h); rwa [toO h] at this)
def e20 : Entry Try.prog gl := entry2 20 ⟨Try.f20, by kernel_rfl, by kernel_rfl, by kernel_rfl⟩ I64 (.a2 SI) (fun n l => ok60 n l) false (fun n l => [.sl P2 (dnL n l), .int .i64 (cmE n (l : List Int × List Int).1 l.2)]) (fun _ _ => []) call20
def e21 : Entry Try.prog gl := entry2 21 ⟨Try.f21, by kernel_rfl, by kernel_rfl, by kernel_rfl⟩ I64 (.a2 SI) (fun n l => ok60 n l) false (fun n l => [.sl P2 (cnL n l), .int .i64 (cmE n (l : List Int × List Int).1 l.2)]) (fun _ _ => []) call21
noncomputable def L51_0 : Code := lp (bodyOf Try.f51) 0
def st51 (l m : List Int) (i : Nat) : St := ⟨(.sl I64 l :: .sl I64 m :: dd 3 ++ .int .i64 i :: dd 20), []⟩
def ex51 (l m : List Int) : List (List Nat × Ex) := [([], ⟨0, Unit, fun _ => l = m, fun _ => ⟨(dd 26), []⟩⟩)]
def h51 (l m : List Int) : Hint := ⟨chk 0 [0, 1, 5] (fun i => i ≤ l.length ∧ l.take i = m.take i) (st51 l m), (ex51 l m).map (·.2)⟩
theorem loop51 (l m : List Int) (hl : l.length < 1000000000000000) (he : l.length = m.length) : LoopOK (X []) L51_0 (h51 l m) (RetR (X []) true false [.tmp 4] [.bool (decide (l = m))] []) := by
 refine loop_ok (X_ok _) (H := fun _ _ => none) [0, 1, 5] (fun i => i ≤ l.length ∧ l.take i = m.take i) (st51 l m) (fun i => l.length - i) (ex51 l m) 200 fun (i : Nat) hi => ?_
 refine of_eq (q := (fun (c : Prop) => (fun (b : Prop) => (fun (a : Int) => b ∧ b ∧ b ∧ b ∧ (a < (l.length : Int) → b ∧ b ∧ idxPre a l.length ∧ b ∧ b ∧ b ∧ idxPre a m.length ∧ b ∧ b ∧ (c → b ∧ b ∧ (false = decide (l = m) ∧ b) ∧ b) ∧ (¬c → b ∧ inR .i64 (a + 1) ∧ b ∧ ∃ (y : Nat), ((y ≤ l.length ∧ List.take y l = List.take y m) ∧ l.length - y < l.length - i) ∧ (l = l ∧ m = m ∧ a + 1 = (y : Int) ∧ b) ∧ b)) ∧ (¬a < (l.length : Int) → ∃ (y : Unit), l = m ∧ b ∧ b)) ((i : Int))) (True)) (¬l.getD i (0 : Int) = m.getD i (0 : Int))) (by kernel_rfl) ?_
 simp only [zz]
 obtain ⟨i1, i2⟩ := hi
 refine ⟨fun h1 => ?_, fun h1 => by rwa [List.take_of_length_le (by omega), List.take_of_length_le (by omega)] at i2⟩
 have h1 : i < l.length := by omega
 refine ⟨idx_nat h1, idx_nat (by omega), fun h2 => (decide_eq_false fun e => h2 (by rw [e])).symm, fun h2 => ⟨by simp only [inR]; omega, i + 1, ⟨⟨by omega, ?_⟩, by omega⟩, by omega⟩⟩
 have h2 : l.getD i 0 = m.getD i 0 := Classical.not_not.mp h2
 rw [take_getD (d := 0) h1, take_getD (d := 0) (show i < m.length by omega), i2, h2]
theorem call51 (l m : List Int) (hl : (l : List Int).length < 1000000000000000) : GCall Try.prog gl 51 true [.sl I64 l, .sl I64 m] [] [.bool (decide (l = m))] [] := by
 refine gcall_of (X := (X [])) ((X_ok _)) (f := 51) (fn := Try.f51) (c := bodyOf Try.f51) (by kernel_rfl) (by kernel_rfl) (view := false) (rvs := [.tmp 4]) (by kernel_rfl) (H := (fun _ => some (h51 l m))) 150 (by kernel_rfl) ?_
 have hL := loop51 l m hl
 refine of_eq (q := (fun (c : Prop) => (fun (b : Bool) => (fun (a : Prop) => a ∧ a ∧ a ∧ a ∧ a ∧ a ∧ (c → a ∧ a ∧ (false = b ∧ a) ∧ a) ∧ (¬c → a ∧ LoopOK (X []) L51_0 (h51 l m) (RetR (X []) true false [ResultVar.tmp (4 : Tmp)] [AV.bool b] []) ∧ (∃ (y : Nat), (y ≤ l.length ∧ List.take y l = List.take y m) ∧ (l = l ∧ m = m ∧ (0 : Int) = (y : Int) ∧ a) ∧ a) ∧ (∀ (y : Unit), l = m → a ∧ a ∧ (true = b ∧ a) ∧ a) ∧ a)) (True)) (decide (l = m))) (¬(l.length : Int) = (m.length : Int))) (by kernel_rfl) ?_
 simp only [zz]
 exact ⟨fun h => (decide_eq_false fun e => h (by rw [e])).symm, fun h => ⟨hL (by omega), ⟨0, ⟨Nat.zero_le _, rfl⟩, rfl⟩, fun _ h => (decide_eq_true h).symm⟩⟩
def e51 : Entry Try.prog gl := entry2 51 ⟨Try.f51, by kernel_rfl, by kernel_rfl, by kernel_rfl⟩ SI SI (fun l _ => (l : List Int).length < 1000000000000000) true (fun (l m : List Int) => [.bool (decide (l = m))]) (fun _ _ => []) (call51)
noncomputable def L18_0 : Code := lp (bodyOf Try.f18) 0
def st18 (l m : LP) (i : Nat) : St := ⟨(.sl P2 l :: .sl P2 m :: dd 3 ++ .int .i64 i :: dd 20), []⟩
def ex18 (l m : LP) : List (List Nat × Ex) := [([], ⟨0, Unit, fun _ => l = m, fun _ => ⟨(dd 26), []⟩⟩)]
def h18 (l m : LP) : Hint := ⟨chk 0 [0, 1, 5] (fun i => i ≤ l.length ∧ l.take i = m.take i) (st18 l m), (ex18 l m).map (·.2)⟩
theorem loop18 (l m : LP) (hl : l.length < 1000000000000000) (he : l.length = m.length) : LoopOK (X []) L18_0 (h18 l m) (RetR (X []) true false [.tmp 4] [.bool (decide (l = m))] []) := by
 refine loop_ok (X_ok _) (H := fun _ _ => none) [0, 1, 5] (fun i => i ≤ l.length ∧ l.take i = m.take i) (st18 l m) (fun i => l.length - i) (ex18 l m) 200 fun (i : Nat) hi => ?_
 refine of_eq (q := (fun (d : Prop) => (fun (c : Int × Int) => (fun (b : Int) => (fun (a : Prop) => d ∧ d ∧ d ∧ d ∧ (b < (↑(List.length l) : Int) → d ∧ d ∧ idxPre b (List.length l) ∧ d ∧ d ∧ d ∧ idxPre b (List.length m) ∧ d ∧ d ∧ (a → d ∧ d ∧ (false = decide (l = m) ∧ d) ∧ d) ∧ (¬a → d ∧ inR .i64 (b + 1) ∧ d ∧ ∃ (y : Nat), ((y ≤ List.length l ∧ List.take y l = List.take y m) ∧ List.length l - y < List.length l - i) ∧ (l = l ∧ m = m ∧ b + 1 = (y : Int) ∧ d) ∧ d)) ∧ (¬b < (↑(List.length l) : Int) → ∃ (y : Unit), l = m ∧ d ∧ d)) (¬((List.getD l i c).fst, (List.getD l i c).snd) = ((List.getD m i c).fst, (List.getD m i c).snd))) ((i : Int))) (((0 : Int), (0 : Int)))) (True)) (by kernel_rfl) ?_
 simp only [zz]
 obtain ⟨i1, i2⟩ := hi
 refine ⟨fun h1 => ?_, fun h1 => by rwa [List.take_of_length_le (by omega), List.take_of_length_le (by omega)] at i2⟩
 have h1 : i < l.length := by omega
 refine ⟨idx_nat h1, idx_nat (by omega), fun h2 => (decide_eq_false fun e => h2 (by rw [e])).symm, fun h2 => ⟨by simp only [inR]; omega, i + 1, ⟨⟨by omega, ?_⟩, by omega⟩, by omega⟩⟩
 have h2 : l.getD i (0, 0) = m.getD i (0, 0) := Classical.not_not.mp h2
 rw [take_getD (d := (0, 0)) h1, take_getD (d := (0, 0)) (show i < m.length by omega), i2, h2]
theorem call18 (l m : LP) (hl : (l : LP).length < 1000000000000000) : GCall Try.prog gl 18 true [.sl P2 l, .sl P2 m] [] [.bool (decide (l = m))] [] := by
 refine gcall_of (X := (X [])) ((X_ok _)) (f := 18) (fn := Try.f18) (c := bodyOf Try.f18) (by kernel_rfl) (by kernel_rfl) (view := false) (rvs := [.tmp 4]) (by kernel_rfl) (H := (fun _ => some (h18 l m))) 150 (by kernel_rfl) ?_
 have hL := loop18 l m hl
 refine of_eq (q := (fun (c : Bool) => (fun (b : Prop) => (fun (a : Prop) => b ∧ b ∧ b ∧ b ∧ b ∧ b ∧ (a → b ∧ b ∧ (false = c ∧ b) ∧ b) ∧ (¬a → b ∧ LoopOK (X []) L18_0 (h18 l m) (RetR (X []) true false [ResultVar.tmp (4 : Tmp)] [AV.bool c] []) ∧ (∃ (y : Nat), (y ≤ List.length l ∧ List.take y l = List.take y m) ∧ (l = l ∧ m = m ∧ (0 : Int) = (y : Int) ∧ b) ∧ b) ∧ (∀ (y : Unit), l = m → b ∧ b ∧ (true = c ∧ b) ∧ b) ∧ b)) (¬(↑(List.length l) : Int) = (↑(List.length m) : Int))) (True)) (decide (l = m))) (by kernel_rfl) ?_
 simp only [zz]
 exact ⟨fun h => (decide_eq_false fun e => h (by rw [e])).symm, fun h => ⟨hL (by omega), ⟨0, ⟨Nat.zero_le _, rfl⟩, rfl⟩, fun _ h => (decide_eq_true h).symm⟩⟩
def e18 : Entry Try.prog gl := entry2 18 ⟨Try.f18, by kernel_rfl, by kernel_rfl, by kernel_rfl⟩ SP SP (fun l _ => (l : LP).length < 1000000000000000) true (fun (l m : LP) => [.bool (decide (l = m))]) (fun _ _ => []) (call18)
instance (n : Int) (l : LP) (k : Nat) : Decidable (edOk n l k) := by unfold edOk lt2; infer_instance
instance (n : Int) (l : LP) (k : Nat) : Decidable (arOk n l k) := by unfold arOk lt2; infer_instance
theorem grOk_of {n : Int} {l : LP} (h : (1 ≤ n ∧ n ≤ 7) ∧ (∀ k, k < l.length → edOk n l k) ∧ l.length ≤ 1000) : grOk n l := ⟨h.1, h.2.1, h.2.2⟩
theorem orOk_of {n : Int} {l : LP} (h : (1 ≤ n ∧ n ≤ 7) ∧ (∀ k, k < l.length → arOk n l k) ∧ l.length ≤ 1000 ∧ trB (adL zf l) = true) : orOk n l := ⟨h.1, h.2.1, h.2.2.1, h.2.2.2⟩
abbrev ring : LP := [(0, 1), (0, 4), (1, 2), (2, 3), (3, 4)]
abbrev four : LP := [(0, 1), (0, 3), (1, 2), (2, 3)]
abbrev star : LP := [(0, 1), (0, 2), (0, 3)]
abbrev tw : List Int × List Int := ([0, 1, 2], [2, 0, 1])
theorem call13 : GCall Try.prog gl 13 true [] [] [.tt] [] := by
 have f1 : grOk 5 ring := grOk_of (by decide +kernel)
 have f2 : grOk 4 four := grOk_of (by decide +kernel)
 have f3 : orOk 4 star := orOk_of (by decide +kernel)
 have c1 : (ckL 5 ring).length = 6 := by decide +kernel
 have c2 : ckB 5 ring = true := by decide +kernel
 have c3 : (orR 5 (eg ring)).2 = false := by decide +kernel
 have c4 : ctN 4 four = 2 := by decide +kernel
 have c5 : lyS (adL zf star) 4 4 = [0, 1, 1, 1] := by decide +kernel
 have c6 : dnL 3 tw = [(0, 2), (1, 2)] := by decide +kernel
 have c7 : cmE 3 tw.1 tw.2 = 0 := by decide +kernel
 have c8 : cnL 3 tw = [(0, 1)] := by decide +kernel
 have o1 : ok60 3 tw := ⟨by decide, by decide⟩
 refine gcall_of (X := X [e25, e24, e11, e32, e20, e21, e51, e18]) (X_ok [e25, e24, e11, e32, e20, e21, e51, e18]) (f := 13) (fn := Try.f13) (c := bodyOf Try.f13) (by kernel_rfl) (by kernel_rfl) (view := false) (rvs := [.tmp 0]) (by kernel_rfl) (H := fun _ => none) 200 (by kernel_rfl) ?_
 refine of_eq (q := (fun (s : Int) => (fun (o : Prop) => (fun (m : Prop) => (fun (j : Int) => (fun (h : Int) => (fun (g : Int) => (fun (c : Int) => (fun (r : Prop) => (fun (l : List Int × List Int) => (fun (k : Prop) => (fun (e : Prop) => (fun (d : List (Int × Int)) => (fun (p : Prop) => (fun (b : Prop) => (fun (f : Prop) => (fun (n : Prop) => (fun (a : Prop) => (fun (i : Prop) => (fun (q : Prop) => b ∧ b ∧ b ∧ b ∧ b ∧ b ∧ b ∧ b ∧ b ∧ (grOk (5 : Int) d ∧ b) ∧ b ∧ b ∧ b ∧ b ∧ b ∧ b ∧ b ∧ b ∧ (grOk (5 : Int) d ∧ b) ∧ b ∧ b ∧ b ∧ b ∧ b ∧ b ∧ b ∧ b ∧ b ∧ b ∧ b ∧ b ∧ ((grOk s [(c, h), (c, j), (h, g), (g, j)] ∧ s ≤ 6) ∧ b) ∧ b ∧ b ∧ b ∧ b ∧ b ∧ b ∧ b ∧ b ∧ b ∧ (orOk s [(c, h), (c, g), (c, j)] ∧ b) ∧ b ∧ b ∧ b ∧ b ∧ b ∧ b ∧ b ∧ b ∧ (ok60 j l ∧ b) ∧ b ∧ b ∧ b ∧ b ∧ b ∧ b ∧ b ∧ b ∧ (ok60 j l ∧ b) ∧ b ∧ b ∧ b ∧ b ∧ b ∧ b ∧ b ∧ b ∧ (r → b ∧ b ∧ b ∧ (m → b ∧ b ∧ b ∧ b ∧ b ∧ (p → b ∧ b ∧ b ∧ b ∧ (r → b ∧ b ∧ b ∧ b ∧ (m → b ∧ b ∧ b ∧ b ∧ (r → b ∧ b ∧ b ∧ b ∧ (k → b ∧ b ∧ b ∧ b ∧ (r → b ∧ b ∧ ((lyS (adL zf [(c, h), (c, g), (c, j)]) (4 : Nat) (4 : Nat)).length + 1 ≤ 1000000000000000 ∧ b) ∧ b ∧ b ∧ (m → b ∧ b ∧ b ∧ b ∧ (e → b ∧ b ∧ b ∧ b ∧ (List.length (dnL j l) + 1 ≤ 1000000000000000 ∧ b) ∧ b ∧ b ∧ (m → b ∧ b ∧ b ∧ b ∧ (e → b ∧ b ∧ b ∧ (List.length (cnL j l) + 1 ≤ 1000000000000000 ∧ b) ∧ b ∧ b ∧ b ∧ (m ∧ b) ∧ b) ∧ (¬e → f)) ∧ (o → b ∧ b ∧ f)) ∧ (¬e → n)) ∧ (o → b ∧ b ∧ n)) ∧ (¬r → a)) ∧ (¬k → b ∧ b ∧ a)) ∧ (¬r → b ∧ b ∧ b ∧ b ∧ a)) ∧ (o → i)) ∧ (¬r → b ∧ b ∧ i)) ∧ (¬p → q)) ∧ (o → b ∧ b ∧ q)) ∧ (¬r → b ∧ b ∧ b ∧ b ∧ q)) (b ∧ b ∧ b ∧ b ∧ i)) (b ∧ b ∧ b ∧ b ∧ b ∧ b ∧ a)) (b ∧ b ∧ b ∧ b ∧ n)) (b ∧ b ∧ b ∧ b ∧ f)) (b ∧ b ∧ b ∧ (false = true ∧ b) ∧ b)) (True)) ((↑(List.length (ckL (5 : Nat) d)) : Int) = 6)) ([(c, h), (c, s), (h, g), (g, j), (j, s)])) (cmE j [c, h, g] [g, c, h] = c)) ((↑(ctN (4 : Nat) [(c, h), (c, j), (h, g), (g, j)]) : Int) = g)) (([c, h, g], [g, c, h]))) (c = c)) ((0 : Int))) ((2 : Int))) ((1 : Int))) ((3 : Int))) (true = true)) (true = false)) ((4 : Int))) (by kernel_rfl) ?_
 simp only [zz]
 refine ⟨f1, f1, ⟨f2, by decide⟩, f3, o1, o1, ?_⟩
 rw [c1, c4, c5, c6, c7, c8]
 simp
def e13 : Entry Try.prog gl where
 f := 13
 lend := false
 en := ⟨Try.f13, by kernel_rfl, by kernel_rfl, by kernel_rfl⟩
 go := fun args ob0 => match args, ob0 with
   | [], [] => some (True, true, [.tt], [])
   | _, _ => none
 ok := by
   intro args ob0 p s r o h hp
   split at h <;> try (cases h; done)
   injection h with h; injection h with h1 h2; injection h2 with h2 h3; injection h3 with h3 h4
   subst h1 h2 h3 h4
   exact call13
end Go.Am.Or

/- Orders: tame. -/
namespace Go.Am.Or
open Go Go.Am Go.Proofs
theorem u64_nn (x : Int) : 0 ≤ modU .u64 x := by
 show 0 ≤ x % 18446744073709551616
 omega
def tmc (m : Nat) (x : Int) : Int := (modU .u64 x).tmod m
theorem tmc_bd {m : Nat} (hm : 1 ≤ m) (x : Int) : 0 ≤ tmc m x ∧ tmc m x < m := ⟨Int.tmod_nonneg _ (u64_nn x), Int.tmod_lt_of_pos _ (by omega)⟩
noncomputable abbrev X10 : Cy := Xw [] fun t => Nat.beq t 15 || (Nat.beq t 48 || Nat.beq t 58)
def hiB (m : Nat) (l : LP) (a b i : Nat) : Bool := decide (minI (tmc m (l.getD i (0, 0)).1) (tmc m (l.getD i (0, 0)).2) = (a : Int)) && decide (maxI (tmc m (l.getD i (0, 0)).1) (tmc m (l.getD i (0, 0)).2) = (b : Int))
def hiT (m : Nat) (l : LP) (a b : Nat) : Bool := (List.range (min l.length 25)).any (hiB m l a b)
def tmM (n : Int) (most : Nat) : Nat := (1 + tmc most n).toNat
def tmL (m : Nat) (l : LP) : LP := L46 m (hiT m l)
theorem hiT_yes {m : Nat} {l : LP} {a b i : Nat} (h1 : i < l.length) (h2 : i < 25) (h : hiB m l a b i = true) : hiT m l a b = true := List.any_eq_true.mpr ⟨i, by simp; omega, h⟩
theorem hiT_no {m : Nat} {l : LP} {a b : Nat} (h : ∀ j, j < l.length → j < 25 → hiB m l a b j = false) : hiT m l a b = false := by
 unfold hiT
 rw [List.any_eq_false]
 intro j hj
 have hj := List.mem_range.mp hj
 rw [h j (by omega) (by omega)]; decide
noncomputable def L10_0 : Code := lp (bodyOf Try.f10) 0
noncomputable def L10_2 : Code := lp (bodyOf Try.f10) 2
noncomputable def L10_4 : Code := lp (bodyOf Try.f10) 4
abbrev PT (m : Nat) (l : LP) : RF := P46 m (hiT m l)
def cz10 (m : Nat) (l : LP) (a b i : Nat) : St := ⟨(.int .i64 m :: .sl P2 l :: dd 6 ++ nl :: .int .i64 a :: .int .i64 b :: .int .i64 i :: dd 71), []⟩
def ct10 (m : Nat) (l : LP) (a b i : Nat) : St := ⟨(.int .i64 m :: .sl P2 l :: dd 6 ++ .own 0 0 :: .int .i64 a :: .int .i64 b :: .int .i64 i :: dd 71), [.sc 0 52 P2 (prK (PT m l) 7 (a * 7 + b))]⟩
def bz10 (m : Nat) (l : LP) (a b : Nat) : St := ⟨(.int .i64 m :: .sl P2 l :: dd 6 ++ nl :: .int .i64 a :: .int .i64 b :: dd 72), []⟩
def bt10 (m : Nat) (l : LP) (a : Nat) (r : LP) (b : Nat) : St := ⟨(.int .i64 m :: .sl P2 l :: dd 6 ++ .own 0 0 :: .int .i64 a :: .int .i64 b :: dd 72), [.sc 0 52 P2 r]⟩
def noH (m : Nat) (l : LP) (a b i : Nat) : Prop := ∀ j, j < i → hiB m l a b j = false
def xcz (m : Nat) (l : LP) (a b : Nat) : List (List Nat × Ex) := [([0, 1, 8, 9, 10], ⟨4, Unit, fun _ => hiT m l a b = false, fun _ => bz10 m l a b⟩), ([0, 1, 8, 9, 10], ⟨4, Unit, fun _ => hiT m l a b = true, fun _ => bt10 m l a [((a : Int), (b : Int))] b⟩)]
def xct (m : Nat) (l : LP) (a b : Nat) : List (List Nat × Ex) := [([0, 1, 8, 9, 10], ⟨4, Unit, fun _ => hiT m l a b = false, fun _ => bt10 m l a (prK (PT m l) 7 (a * 7 + b)) b⟩), ([0, 1, 8, 9, 10], ⟨4, Unit, fun _ => hiT m l a b = true, fun _ => bt10 m l a (prK (PT m l) 7 (a * 7 + b) ++ [((a : Int), (b : Int))]) b⟩)]
def hcz (m : Nat) (l : LP) (a b : Nat) : Hint := ⟨chk 0 [0, 1, 8, 9, 10, 11] (fun i => (i ≤ l.length ∧ i ≤ 25) ∧ noH m l a b i) (cz10 m l a b), (xcz m l a b).map (·.2)⟩
def hct (m : Nat) (l : LP) (a b : Nat) : Hint := ⟨chk 0 [0, 1, 8, 9, 10, 11] (fun i => (i ≤ l.length ∧ i ≤ 25) ∧ noH m l a b i) (ct10 m l a b), (xct m l a b).map (·.2)⟩
theorem tm_rg {m : Nat} (m1 : 1 ≤ m) (hm : m ≤ 7) (x : Int) : inR .i64 (tmc m x) := by
 have := tmc_bd m1 x
 simp only [inR]; omega
theorem noH_next {m : Nat} {l : LP} {a b i : Nat} (h : noH m l a b i) (h2 : hiB m l a b i = false) : noH m l a b (i + 1) := fun j hj => by
 by_cases e : j = i
 · rw [e]; exact h2
 · exact h j (by omega)
theorem loop10cz (m : Nat) (m1 : 1 ≤ m) (hm : m ≤ 7) (l : LP) (hl : l.length < 1000000000000000) (a b : Nat) (R : Exit → St → Prop) : LoopOK X10 L10_4 (hcz m l a b) R := by
 refine loop_ok (Xw_ok _ _) (H := fun _ _ => none) [0, 1, 8, 9, 10, 11] (fun i => (i ≤ l.length ∧ i ≤ 25) ∧ noH m l a b i) (cz10 m l a b) (fun i => l.length - i) (xcz m l a b) 200 fun (i : Nat) hi => ?_
 refine of_eq (q := (fun (q : Int) => (fun (p : Bool) => (fun (o : Int) => (fun (n : Int) => (fun (k : Int) => (fun (j : Prop) => (fun (h : Int) => (fun (g : Prop) => (fun (r : Prop) => (fun (f : Int) => (fun (e : Int) => (fun (d : Prop) => (fun (c : Prop) => j ∧ j ∧ j ∧ j ∧ j ∧ (o < (↑(List.length l) : Int) → j ∧ j ∧ j ∧ (o < 25 → j ∧ j ∧ idxPre o (List.length l) ∧ idxPre q (2 : Nat) ∧ j ∧ j ∧ j ∧ inR .u64 h ∧ ¬h = q ∧ inR .i64 f ∧ j ∧ j ∧ idxPre o (List.length l) ∧ idxPre (1 : Int) (2 : Nat) ∧ j ∧ j ∧ j ∧ inR .u64 h ∧ ¬h = q ∧ inR .i64 e ∧ j ∧ j ∧ j ∧ j ∧ j ∧ j ∧ j ∧ j ∧ (minI f e = n → j ∧ j ∧ j ∧ j ∧ j ∧ j ∧ (maxI f e = k → j ∧ j ∧ j ∧ j ∧ j ∧ sumPre (0 : Nat) [(n, k)].length (nat_lit 16) ∧ j ∧ ((∃ (y : Unit), p = false ∧ r ∧ j) ∨ ∃ (y : Unit), p = true ∧ (h = h ∧ l = l ∧ j ∧ g) ∧ [(n, k)] = [(n, k)] ∧ j)) ∧ (¬maxI f e = k → c)) ∧ (¬minI f e = n → j ∧ c)) ∧ (¬o < 25 → d)) ∧ (¬o < (↑(List.length l) : Int) → j ∧ d)) (j ∧ inR .i64 (o + 1) ∧ j ∧ ∃ (y : Nat), (((y ≤ List.length l ∧ y ≤ 25) ∧ noH m l a b y) ∧ List.length l - y < List.length l - i) ∧ (h = h ∧ l = l ∧ j ∧ n = n ∧ k = k ∧ o + 1 = (y : Int) ∧ j) ∧ j)) ((∃ (y : Unit), p = false ∧ (h = h ∧ l = l ∧ j ∧ g) ∧ j) ∨ ∃ (y : Unit), p = true ∧ r ∧ False)) ((modU .u64 (List.getD l i (q, q)).snd).tmod h)) ((modU .u64 (List.getD l i (q, q)).fst).tmod h)) (h = h ∧ l = l ∧ False ∧ g)) (n = n ∧ k = k ∧ j)) ((m : Int))) (True)) ((b : Int))) ((a : Int))) ((i : Int))) (hiT m l a b)) ((0 : Int))) (by kernel_rfl) ?_
 simp only [zz]
 obtain ⟨⟨i1, i2⟩, i3⟩ := hi
 have um : inR .u64 (m : Int) := by simp only [inR]; omega
 have m0 : ¬ (m : Int) = 0 := by omega
 have r1 := tm_rg m1 hm (l.getD i (0, 0)).1
 have r2 := tm_rg m1 hm (l.getD i (0, 0)).2
 unfold tmc at r1 r2
 have hB : hiB m l a b i = (decide (minI ((modU .u64 (l.getD i (0, 0)).1).tmod m) ((modU .u64 (l.getD i (0, 0)).2).tmod m) = (a : Int)) && decide (maxI ((modU .u64 (l.getD i (0, 0)).1).tmod m) ((modU .u64 (l.getD i (0, 0)).2).tmod m) = (b : Int))) := rfl
 have nx : hiB m l a b i = false → i < l.length → i < 25 → inR .i64 ((i : Int) + 1) ∧ ∃ y : Nat, (((y ≤ l.length ∧ y ≤ 25) ∧ noH m l a b y) ∧ l.length - y < l.length - i) ∧ (i : Int) + 1 = (y : Int) := fun h h1 h2 => ⟨in1 (by omega), i + 1, ⟨⟨⟨by omega, by omega⟩, noH_next i3 h⟩, by omega⟩, by omega⟩
 have none1 : ¬ i < 25 ∨ ¬ i < l.length → hiT m l a b = false := fun h => hiT_no fun j h1 h2 => i3 j (by omega)
 refine ⟨fun h1 => ⟨fun h2 => ?_, fun h2 => none1 (.inl (by omega))⟩, fun h1 => none1 (.inr (by omega))⟩
 have h1 : i < l.length := by omega
 have h2 : i < 25 := by omega
 have ii := idx_nat h1
 refine ⟨ii, i02, um, m0, r1, ii, i12, um, m0, r2, fun h3 => ⟨fun h4 => ⟨by simp [sumPre], hiT_yes h1 h2 ?_⟩, fun h4 => nx ?_ h1 h2⟩, fun h3 => nx ?_ h1 h2⟩
 · rw [hB, decide_eq_true h3, decide_eq_true h4]; try rfl
 · rw [hB, decide_eq_false h4, Bool.and_false]
 · rw [hB, decide_eq_false h3, Bool.false_and]
theorem loop10ct (m : Nat) (m1 : 1 ≤ m) (hm : m ≤ 7) (l : LP) (hl : l.length < 1000000000000000) (a b : Nat) (hb : a * 7 + b < 1000) (R : Exit → St → Prop) : LoopOK X10 L10_4 (hct m l a b) R := by
 refine loop_ok (Xw_ok _ _) (H := fun _ _ => none) [0, 1, 8, 9, 10, 11] (fun i => (i ≤ l.length ∧ i ≤ 25) ∧ noH m l a b i) (ct10 m l a b) (fun i => l.length - i) (xct m l a b) 200 fun (i : Nat) hi => ?_
 refine of_eq (q := (fun (r : Int) => (fun (q : Bool) => (fun (p : Int) => (fun (o : Int) => (fun (n : Int) => (fun (k : Int) => (fun (j : Prop) => (fun (g : Int) => (fun (f : Int) => (fun (d : Prop) => (fun (c : LP) => (fun (h : Prop) => (fun (e : Prop) => j ∧ j ∧ j ∧ j ∧ j ∧ (p < (↑(List.length l) : Int) → j ∧ j ∧ j ∧ (p < 25 → j ∧ j ∧ idxPre p (List.length l) ∧ idxPre r (2 : Nat) ∧ j ∧ j ∧ j ∧ inR .u64 o ∧ ¬o = r ∧ inR .i64 f ∧ j ∧ j ∧ idxPre p (List.length l) ∧ idxPre (1 : Int) (2 : Nat) ∧ j ∧ j ∧ j ∧ inR .u64 o ∧ ¬o = r ∧ inR .i64 g ∧ j ∧ j ∧ j ∧ j ∧ j ∧ j ∧ j ∧ j ∧ (minI f g = n → j ∧ j ∧ j ∧ j ∧ j ∧ j ∧ (maxI f g = k → j ∧ j ∧ j ∧ j ∧ j ∧ sumPre (List.length c) [(n, k)].length (nat_lit 16) ∧ j ∧ ((∃ (y : Unit), q = false ∧ d ∧ c ++ [(n, k)] = c ∧ j) ∨ ∃ (y : Unit), q = true ∧ d ∧ c ++ [(n, k)] = c ++ [(n, k)] ∧ j)) ∧ (¬maxI f g = k → e)) ∧ (¬minI f g = n → j ∧ e)) ∧ (¬p < 25 → h)) ∧ (¬p < (↑(List.length l) : Int) → j ∧ h)) (j ∧ inR .i64 (p + 1) ∧ j ∧ ∃ (y : Nat), (((y ≤ List.length l ∧ y ≤ 25) ∧ noH m l a b y) ∧ List.length l - y < List.length l - i) ∧ (o = o ∧ l = l ∧ j ∧ n = n ∧ k = k ∧ p + 1 = (y : Int) ∧ j) ∧ c = c ∧ j)) ((∃ (y : Unit), q = false ∧ d ∧ c = c ∧ j) ∨ ∃ (y : Unit), q = true ∧ d ∧ c = c ++ [(n, k)] ∧ j)) (prK (PT m l) (7 : Nat) (a * 7 + b))) (o = o ∧ l = l ∧ j ∧ n = n ∧ k = k ∧ j)) ((modU .u64 (List.getD l i (r, r)).fst).tmod o)) ((modU .u64 (List.getD l i (r, r)).snd).tmod o)) (True)) ((b : Int))) ((a : Int))) ((m : Int))) ((i : Int))) (hiT m l a b)) ((0 : Int))) (by kernel_rfl) ?_
 simp only [zz]
 obtain ⟨⟨i1, i2⟩, i3⟩ := hi
 have um : inR .u64 (m : Int) := by simp only [inR]; omega
 have m0 : ¬ (m : Int) = 0 := by omega
 have r1 := tm_rg m1 hm (l.getD i (0, 0)).1
 have r2 := tm_rg m1 hm (l.getD i (0, 0)).2
 unfold tmc at r1 r2
 have hB : hiB m l a b i = (decide (minI ((modU .u64 (l.getD i (0, 0)).1).tmod m) ((modU .u64 (l.getD i (0, 0)).2).tmod m) = (a : Int)) && decide (maxI ((modU .u64 (l.getD i (0, 0)).1).tmod m) ((modU .u64 (l.getD i (0, 0)).2).tmod m) = (b : Int))) := rfl
 have nx : hiB m l a b i = false → i < l.length → i < 25 → inR .i64 ((i : Int) + 1) ∧ ∃ y : Nat, (((y ≤ l.length ∧ y ≤ 25) ∧ noH m l a b y) ∧ l.length - y < l.length - i) ∧ (i : Int) + 1 = (y : Int) := fun h h1 h2 => ⟨in1 (by omega), i + 1, ⟨⟨⟨by omega, by omega⟩, noH_next i3 h⟩, by omega⟩, by omega⟩
 have none1 : ¬ i < 25 ∨ ¬ i < l.length → hiT m l a b = false := fun h => hiT_no fun j h1 h2 => i3 j (by omega)
 have hlen := prK_len (PT m l) 7 (a * 7 + b)
 refine ⟨fun h1 => ⟨fun h2 => ?_, fun h2 => .inl (none1 (.inl (by omega)))⟩, fun h1 => .inl (none1 (.inr (by omega)))⟩
 have h1 : i < l.length := by omega
 have h2 : i < 25 := by omega
 have ii := idx_nat h1
 refine ⟨ii, i02, um, m0, r1, ii, i12, um, m0, r2, fun h3 => ⟨fun h4 => ⟨by unfold sumPre; simp; omega, ?_⟩, fun h4 => nx ?_ h1 h2⟩, fun h3 => nx ?_ h1 h2⟩
 · have hy : hiT m l a b = true := hiT_yes h1 h2 (by rw [hB, decide_eq_true h3, decide_eq_true h4] <;> rfl)
   first | exact .inr ⟨hy, rfl⟩ | exact .inr hy
 · rw [hB, decide_eq_false h4, Bool.and_false]
 · rw [hB, decide_eq_false h3, Bool.false_and]
def az10 (m : Nat) (l : LP) (a : Nat) : St := ⟨(.int .i64 m :: .sl P2 l :: dd 6 ++ nl :: .int .i64 a :: dd 73), []⟩
def at10 (m : Nat) (l : LP) (a : Nat) (r : LP) : St := ⟨(.int .i64 m :: .sl P2 l :: dd 6 ++ .own 0 0 :: .int .i64 a :: dd 73), [.sc 0 52 P2 r]⟩
def fb10 (m : Nat) (l : LP) (a : Nat) : List Fam := [⟨Nat, fun b => (a < b ∧ b ≤ m) ∧ prK (PT m l) 7 (a * 7 + b) = [], bz10 m l a, fun b => m - b, fun b _ => some (hcz m l a b)⟩, ⟨Nat, fun b => a < b ∧ b ≤ m, fun b => bt10 m l a (prK (PT m l) 7 (a * 7 + b)) b, fun b => m - b, fun b _ => some (hct m l a b)⟩]
def xb10 (m : Nat) (l : LP) (a : Nat) : List (List Nat × Ex) := [([0, 1, 8, 9], ⟨2, Unit, fun _ => prK (PT m l) 7 (a * 7 + m) = [], fun _ => az10 m l a⟩), ([0, 1, 8, 9], ⟨2, Unit, fun _ => True, fun _ => at10 m l a (prK (PT m l) 7 (a * 7 + m))⟩)]
def hb10 (m : Nat) (l : LP) (a : Nat) : Hint := ⟨chks 0 [0, 1, 8, 9, 10] (fb10 m l a), (xb10 m l a).map (·.2)⟩
theorem loop10b (m : Nat) (m1 : 1 ≤ m) (hm : m ≤ 7) (l : LP) (hl : l.length < 1000000000000000) (a : Nat) (ha : a < m) (R : Exit → St → Prop) : LoopOK X10 L10_2 (hb10 m l a) R := by
 have hP : ∀ b, a < b → b < m → PT m l a b = hiT m l a b := fun b h1 h2 => by show (decide (a < b) && decide (b < m) && hiT m l a b) = _; rw [decide_eq_true h1, decide_eq_true h2]; try rfl
 refine loop_fams (Xw_ok _ _) [0, 1, 8, 9, 10] (fb10 m l a) (xb10 m l a) 200 ⟨fun (b : Nat) hb => ?_, fun (b : Nat) hb => ?_, trivial⟩
 · have hL := fun R => loop10cz m m1 hm l hl a b R
   refine of_eq (q := (fun (j : Prop) => (fun (h : Nat) => (fun (g : Int) => (fun (f : Prop) => (fun (e : Int) => (fun (d : Int) => (fun (i : Prop) => (fun (c : Int) => (fun (k : Prop) => f ∧ f ∧ f ∧ (g < c → f ∧ LoopOK X10 L10_4 (hcz m l a b) (bodyR (Xw [] fun (t : Nat) => t.beq (15 : Nat) || (t.beq (48 : Nat) || t.beq (58 : Nat))).m0 (xb10 m l a) R) ∧ (∃ (y : Nat), ((y ≤ List.length l ∧ y ≤ 25) ∧ noH m l a b y) ∧ (k ∧ j ∧ f ∧ i ∧ g = g ∧ (0 : Int) = (y : Int) ∧ f) ∧ f) ∧ (∀ (y : Unit), hiT m l a b = false → f ∧ inR .i64 e ∧ f ∧ ((∃ (y : Nat), (((a < y ∧ y ≤ m) ∧ prK (PT m l) h (a * h + y) = []) ∧ m - y < m - b) ∧ (k ∧ j ∧ f ∧ i ∧ e = (y : Int) ∧ f) ∧ f) ∨ ∃ (y : Nat), ((a < y ∧ y ≤ m) ∧ m - y < m - b) ∧ (k ∧ j ∧ False ∧ i ∧ e = (y : Int) ∧ f) ∧ False)) ∧ (∀ (y : Unit), hiT m l a b = true → f ∧ inR .i64 e ∧ f ∧ ((∃ (y : Nat), (((a < y ∧ y ≤ m) ∧ prK (PT m l) h (a * h + y) = []) ∧ m - y < m - b) ∧ (k ∧ j ∧ False ∧ i ∧ e = (y : Int) ∧ f) ∧ f) ∨ ∃ (y : Nat), ((a < y ∧ y ≤ m) ∧ m - y < m - b) ∧ (k ∧ j ∧ f ∧ i ∧ e = (y : Int) ∧ f) ∧ [(d, g)] = prK (PT m l) h (a * h + y) ∧ f)) ∧ f) ∧ (¬g < c → (∃ (y : Unit), prK (PT m l) h (a * h + m) = [] ∧ (k ∧ j ∧ f ∧ i ∧ f) ∧ f) ∨ ∃ (y : Unit), f ∧ (k ∧ j ∧ False ∧ i ∧ f) ∧ False)) (c = c)) ((m : Int))) (d = d)) ((a : Int))) (g + 1)) (True)) ((b : Int))) ((7 : Nat))) (l = l)) (by kernel_rfl) ?_
   simp only [zz]
   obtain ⟨b1, b2⟩ := hb
   refine ⟨fun h1 => ?_, fun h1 => by rwa [show b = m by omega] at b2⟩
   have h1 : b < m := by omega
   have hst := prK_step (P := PT m l) (i := a) (j := b) (w := 7) (by omega)
   rw [hP b b1.1 h1] at hst
   refine ⟨hL _, ⟨0, ⟨⟨Nat.zero_le _, by omega⟩, fun j hj => absurd hj (Nat.not_lt_zero _)⟩, rfl⟩, fun _ h2 => ⟨in1 (by omega), b + 1, ⟨⟨by omega, ?_⟩, by omega⟩, by omega⟩, fun _ h2 => ⟨in1 (by omega), b + 1, ⟨by omega, by omega⟩, by omega, ?_⟩⟩
   · rw [hst, if_neg (by rw [h2]; decide)]; exact b2
   · rw [hst, if_pos h2, b2]; try rfl
 · have hL := fun h R => loop10ct m m1 hm l hl a b h R
   refine of_eq (q := (fun (i : Prop) => (fun (h : Nat) => (fun (k : LP) => (fun (g : Int) => (fun (j : Int) => (fun (f : Int) => (fun (e : Int) => (fun (d : LP) => (fun (c : Prop) => i ∧ i ∧ i ∧ (g < e → i ∧ LoopOK X10 L10_4 (hct m l a b) (bodyR (Xw [] fun (t : Nat) => t.beq (15 : Nat) || (t.beq (48 : Nat) || t.beq (58 : Nat))).m0 (xb10 m l a) R) ∧ (∃ (y : Nat), ((y ≤ List.length l ∧ y ≤ 25) ∧ noH m l a b y) ∧ (e = e ∧ l = l ∧ i ∧ f = f ∧ g = g ∧ (0 : Int) = (y : Int) ∧ i) ∧ d = d ∧ i) ∧ (∀ (y : Unit), hiT m l a b = false → i ∧ inR .i64 j ∧ i ∧ (c ∨ ∃ (y : Nat), ((a < y ∧ y ≤ m) ∧ m - y < m - b) ∧ (e = e ∧ l = l ∧ i ∧ f = f ∧ j = (y : Int) ∧ i) ∧ d = prK (PT m l) h (a * h + y) ∧ i)) ∧ (∀ (y : Unit), hiT m l a b = true → i ∧ inR .i64 j ∧ i ∧ (c ∨ ∃ (y : Nat), ((a < y ∧ y ≤ m) ∧ m - y < m - b) ∧ (e = e ∧ l = l ∧ i ∧ f = f ∧ j = (y : Int) ∧ i) ∧ d ++ [(f, g)] = prK (PT m l) h (a * h + y) ∧ i)) ∧ i) ∧ (¬g < e → (∃ (y : Unit), k = [] ∧ (e = e ∧ l = l ∧ False ∧ f = f ∧ i) ∧ i) ∨ ∃ (y : Unit), i ∧ (e = e ∧ l = l ∧ i ∧ f = f ∧ i) ∧ d = k ∧ i)) (∃ (y : Nat), (((a < y ∧ y ≤ m) ∧ prK (PT m l) h (a * h + y) = []) ∧ m - y < m - b) ∧ (e = e ∧ l = l ∧ False ∧ f = f ∧ j = (y : Int) ∧ i) ∧ i)) (prK (PT m l) h (a * h + b))) ((m : Int))) ((a : Int))) (g + 1)) ((b : Int))) (prK (PT m l) h (a * h + m))) ((7 : Nat))) (True)) (by kernel_rfl) ?_
   simp only [zz]
   have b1 : a < b ∧ b ≤ m := hb
   refine ⟨fun h1 => ?_, fun h1 => by rw [show b = m by omega]⟩
   have h1 : b < m := by omega
   have hst := prK_step (P := PT m l) (i := a) (j := b) (w := 7) (by omega)
   rw [hP b b1.1 h1] at hst
   refine ⟨hL (by omega) _, ⟨0, ⟨⟨Nat.zero_le _, by omega⟩, fun j hj => absurd hj (Nat.not_lt_zero _)⟩, rfl⟩, fun _ h2 => ⟨in1 (by omega), b + 1, ⟨by omega, by omega⟩, by omega, ?_⟩, fun _ h2 => ⟨in1 (by omega), b + 1, ⟨by omega, by omega⟩, by omega, ?_⟩⟩
   · rw [hst, if_neg (by rw [h2]; decide)]
   · rw [hst, if_pos h2]
def fa10 (m : Nat) (l : LP) : List Fam := [⟨Nat, fun a => a ≤ m ∧ prK (PT m l) 7 (a * 7) = [], az10 m l, fun a => m - a, fun a _ => some (hb10 m l a)⟩, ⟨Nat, fun a => a ≤ m, fun a => at10 m l a (prK (PT m l) 7 (a * 7)), fun a => m - a, fun a _ => some (hb10 m l a)⟩]
def xa10 (m : Nat) (l : LP) : List (List Nat × Ex) := [([0, 8], ⟨0, Unit, fun _ => tmL m l = [], fun _ => ⟨(.int .i64 m :: dd 7 ++ nl :: dd 74), []⟩⟩), ([0, 8], ⟨0, Unit, fun _ => True, fun _ => ⟨(.int .i64 m :: dd 7 ++ .own 0 0 :: dd 74), [.sc 0 52 P2 (tmL m l)]⟩⟩)]
def ha10 (m : Nat) (l : LP) : Hint := ⟨chks 0 [0, 1, 8, 9] (fa10 m l), (xa10 m l).map (·.2)⟩
theorem loop10a (m : Nat) (m1 : 1 ≤ m) (hm : m ≤ 7) (l : LP) (hl : l.length < 1000000000000000) (R : Exit → St → Prop) : LoopOK X10 L10_0 (ha10 m l) R := by
 refine loop_fams (Xw_ok _ _) [0, 1, 8, 9] (fa10 m l) (xa10 m l) 200 ⟨fun (a : Nat) ha => ?_, fun (a : Nat) ha => ?_, trivial⟩
 · have hL := fun h1 => loop10b m m1 hm l hl a h1 (bodyR 0 (xa10 m l) R)
   have hrow := row46 m hm (hiT m l) a
   have hbeg := beg46 m hm (hiT m l) a
   refine of_eq (q := (fun (f : Int) => (fun (e : Prop) => (fun (d : Nat) => (fun (g : LP) => (fun (c : Int) => (fun (b : Int) => (fun (h : Prop) => e ∧ e ∧ e ∧ (f < b → e ∧ inR .i64 c ∧ e ∧ LoopOK X10 L10_2 (hb10 m l a) (bodyR (0 : Nat) (xa10 m l) R) ∧ ((∃ (y : Nat), ((a < y ∧ y ≤ m) ∧ prK (PT m l) d (a * d + y) = []) ∧ (h ∧ l = l ∧ e ∧ f = f ∧ c = (y : Int) ∧ e) ∧ e) ∨ ∃ (y : Nat), (a < y ∧ y ≤ m) ∧ (h ∧ l = l ∧ False ∧ f = f ∧ c = (y : Int) ∧ e) ∧ False) ∧ (∀ (y : Unit), g = [] → e ∧ inR .i64 c ∧ e ∧ ((∃ (y : Nat), ((y ≤ m ∧ prK (PT m l) d (y * d) = []) ∧ m - y < m - a) ∧ (h ∧ l = l ∧ e ∧ c = (y : Int) ∧ e) ∧ e) ∨ ∃ (y : Nat), (y ≤ m ∧ m - y < m - a) ∧ (h ∧ l = l ∧ False ∧ c = (y : Int) ∧ e) ∧ False)) ∧ (∀ (y : Unit), e → e ∧ inR .i64 c ∧ e ∧ ((∃ (y : Nat), ((y ≤ m ∧ prK (PT m l) d (y * d) = []) ∧ m - y < m - a) ∧ (h ∧ l = l ∧ False ∧ c = (y : Int) ∧ e) ∧ e) ∨ ∃ (y : Nat), (y ≤ m ∧ m - y < m - a) ∧ (h ∧ l = l ∧ e ∧ c = (y : Int) ∧ e) ∧ g = prK (PT m l) d (y * d) ∧ e)) ∧ e) ∧ (¬f < b → (∃ (y : Unit), tmL m l = [] ∧ (h ∧ e ∧ e) ∧ e) ∨ ∃ (y : Unit), e ∧ (h ∧ False ∧ e) ∧ False)) (b = b)) ((m : Int))) (f + 1)) (prK (PT m l) d (a * d + m))) ((7 : Nat))) (True)) ((a : Int))) (by kernel_rfl) ?_
   simp only [zz]
   obtain ⟨a1, a2⟩ := ha
   exact ⟨fun h1 => ⟨in1 (by omega), hL (by omega), ⟨a + 1, ⟨⟨by omega, by omega⟩, by rw [← hbeg (by omega)]; exact a2⟩, by omega⟩, fun _ h2 => ⟨in1 (by omega), a + 1, ⟨⟨by omega, by rw [← hrow]; exact h2⟩, by omega⟩, by omega⟩, fun _ _ => ⟨in1 (by omega), a + 1, ⟨by omega, by omega⟩, by omega, hrow⟩⟩, fun h1 => (show a = m by omega) ▸ (all46 m hm (hiT m l)).symm.trans ((show m = a by omega) ▸ a2)⟩
 · have hL := fun h1 => loop10b m m1 hm l hl a h1 (bodyR 0 (xa10 m l) R)
   have hrow := row46 m hm (hiT m l) a
   have hbeg := beg46 m hm (hiT m l) a
   refine of_eq (q := (fun (f : Int) => (fun (e : Prop) => (fun (d : Nat) => (fun (g : LP) => (fun (c : Int) => (fun (b : Int) => (fun (h : Prop) => e ∧ e ∧ e ∧ (f < b → e ∧ inR .i64 c ∧ e ∧ LoopOK X10 L10_2 (hb10 m l a) (bodyR (0 : Nat) (xa10 m l) R) ∧ ((∃ (y : Nat), ((a < y ∧ y ≤ m) ∧ prK (PT m l) d (a * d + y) = []) ∧ (h ∧ l = l ∧ False ∧ f = f ∧ c = (y : Int) ∧ e) ∧ e) ∨ ∃ (y : Nat), (a < y ∧ y ≤ m) ∧ (h ∧ l = l ∧ e ∧ f = f ∧ c = (y : Int) ∧ e) ∧ prK (PT m l) d (a * d) = prK (PT m l) d (a * d + y) ∧ e) ∧ (∀ (y : Unit), g = [] → e ∧ inR .i64 c ∧ e ∧ ((∃ (y : Nat), ((y ≤ m ∧ prK (PT m l) d (y * d) = []) ∧ m - y < m - a) ∧ (h ∧ l = l ∧ e ∧ c = (y : Int) ∧ e) ∧ e) ∨ ∃ (y : Nat), (y ≤ m ∧ m - y < m - a) ∧ (h ∧ l = l ∧ False ∧ c = (y : Int) ∧ e) ∧ False)) ∧ (∀ (y : Unit), e → e ∧ inR .i64 c ∧ e ∧ ((∃ (y : Nat), ((y ≤ m ∧ prK (PT m l) d (y * d) = []) ∧ m - y < m - a) ∧ (h ∧ l = l ∧ False ∧ c = (y : Int) ∧ e) ∧ e) ∨ ∃ (y : Nat), (y ≤ m ∧ m - y < m - a) ∧ (h ∧ l = l ∧ e ∧ c = (y : Int) ∧ e) ∧ g = prK (PT m l) d (y * d) ∧ e)) ∧ e) ∧ (¬f < b → (∃ (y : Unit), tmL m l = [] ∧ (h ∧ False ∧ e) ∧ e) ∨ ∃ (y : Unit), e ∧ (h ∧ e ∧ e) ∧ prK (PT m l) d (a * d) = tmL m l ∧ e)) (b = b)) ((m : Int))) (f + 1)) (prK (PT m l) d (a * d + m))) ((7 : Nat))) (True)) ((a : Int))) (by kernel_rfl) ?_
   simp only [zz]
   have a1 : a ≤ m := ha
   exact ⟨fun h1 => ⟨in1 (by omega), hL (by omega), ⟨a + 1, ⟨by omega, by omega⟩, by omega, hbeg (by omega)⟩, fun _ h2 => ⟨in1 (by omega), a + 1, ⟨⟨by omega, by rw [← hrow]; exact h2⟩, by omega⟩, by omega⟩, fun _ _ => ⟨in1 (by omega), a + 1, ⟨by omega, by omega⟩, by omega, hrow⟩⟩, fun h1 => by unfold tmL; rw [← all46 m hm (hiT m l), show a = m by omega]⟩
theorem call10 (n : Int) (l : LP) (most : Nat) (h1 : 1 ≤ most) (h7 : most ≤ 7) (hl : l.length < 1000000000000000) : GCall Try.prog gl 10 true [.int .i64 n, .sl P2 l, .int .i64 most] [] [.int .i64 (tmM n most), .sl P2 (tmL (tmM n most) l)] [] := by
 refine gcall_of (X := X10) ((Xw_ok _ _)) (f := 10) (fn := Try.f10) (c := bodyOf Try.f10) (by kernel_rfl) (by kernel_rfl) (view := true) (rvs := [.tmp 6, .tmp 7]) (by kernel_rfl) (H := (fun _ => some (ha10 (tmM n most) l))) 150 (by kernel_rfl) ?_
 have hb := tmc_bd h1 n
 have hL := fun R => loop10a (tmM n most) (by unfold tmM; omega) (by unfold tmM; omega) l hl R
 refine of_eq (q := (fun (c : Prop) => (fun (b : Int) => (fun (a : Nat) => (fun (e : LP) => (fun (d : Int) => c ∧ c ∧ c ∧ c ∧ c ∧ inR .u64 (most : Int) ∧ ¬(most : Int) = 0 ∧ inR .i64 b ∧ inR .i64 ((1 : Int) + b) ∧ c ∧ c ∧ c ∧ LoopOK X10 L10_0 (ha10 a l) (RetR X10 true true [ResultVar.tmp (6 : Tmp), ResultVar.tmp (7 : Tmp)] [AV.int .i64 d, AV.sl P2 e] []) ∧ ((∃ (y : Nat), (y ≤ a ∧ prK (PT a l) (7 : Nat) (y * 7) = []) ∧ ((1 : Int) + b = d ∧ l = l ∧ c ∧ (0 : Int) = (y : Int) ∧ c) ∧ c) ∨ ∃ (y : Nat), y ≤ a ∧ ((1 : Int) + b = d ∧ l = l ∧ False ∧ (0 : Int) = (y : Int) ∧ c) ∧ False) ∧ (∀ (y : Unit), e = [] → c ∧ c ∧ c ∧ c ∧ c ∧ (d = d ∧ ([] : List (Int × Int)) = e ∧ c) ∧ c) ∧ (∀ (y : Unit), c → c ∧ c ∧ c ∧ c ∧ c ∧ (d = d ∧ e = e ∧ c) ∧ c) ∧ c) ((a : Int))) (tmL a l)) (tmM n most)) ((modU .u64 n).tmod (most : Int))) (True)) (by kernel_rfl) ?_
 simp only [zz]
 have e : 1 + (modU .u64 n).tmod most = ((tmM n most : Nat) : Int) := by
   show 1 + tmc most n = _
   unfold tmM; omega
 have r := tm_rg h1 h7 n
 refine ⟨by simp only [inR]; omega, by omega, r, by rw [e]; unfold tmM; simp only [inR]; omega, hL _, ⟨0, ⟨Nat.zero_le _, rfl⟩, e, rfl⟩, fun _ h => h.symm, fun _ _ => trivial⟩
end Go.Am.Or

/- Orders: plain facts: graphs as lists, and what an order is. -/
namespace Go.Am.Or
open Go Go.Am Go.Proofs
def e10 : Entry Try.prog gl := entry3 10 ⟨Try.f10, by kernel_rfl, by kernel_rfl, by kernel_rfl⟩ I64 SP I64 (fun _ l (most : Int) => (1 ≤ most ∧ most ≤ 7) ∧ (l : LP).length < 1000000000000000) true (fun (n : Int) (l : LP) (most : Int) => [.int .i64 (tmM n most.toNat), .sl P2 (tmL (tmM n most.toNat) l)]) (fun _ _ _ => []) (fun (n : Int) (l : LP) (most : Int) h => by
 have := call10 n l most.toNat (by omega) (by omega) h.2
 rwa [Int.toNat_of_nonneg (by omega)] at this)
theorem tmM_bd {n : Int} {most : Nat} (h1 : 1 ≤ most) : 1 ≤ tmM n most ∧ tmM n most ≤ most := by
 have := tmc_bd h1 n
 unfold tmM; omega
/-- The pairs of a relation are rising. -/
theorem prK_sort {P : RF} : ∀ {q i j : Nat}, i < j → j < (prK P 7 q).length → lt2 ((prK P 7 q).getD i (0, 0)) ((prK P 7 q).getD j (0, 0))
 | 0, i, j, _, h => by simp [prK] at h
 | q + 1, i, j, hij, h => by
   rw [prK] at h ⊢
   by_cases hp : P (q / 7) (q % 7) = true
   · rw [if_pos hp] at h ⊢
     rw [List.length_append, List.length_singleton] at h
     by_cases hj : j < (prK P 7 q).length
     · rw [getD_app hj, getD_app (by omega)]; exact prK_sort hij hj
     · have e : j = (prK P 7 q).length := by omega
       rw [e, getD_last, getD_app (by omega)]
       obtain ⟨a, b, h1, h2, h3, _⟩ := (prK_mem (by decide)).mp (mem_getD (d := (0, 0)) (show i < (prK P 7 q).length by omega))
       rw [h1]
       unfold lt2
       simp only
       omega
   · rw [if_neg hp] at h ⊢; exact prK_sort hij h
theorem L46_ok {n : Nat} (n1 : 1 ≤ n) (hn : n ≤ 7) (f : RF) : grOk n (L46 n f) := by
 refine ⟨by omega, fun k hk => ?_, ?_⟩
 · obtain ⟨a, b, h1, h2, h3, h4, _⟩ := L46_mem.mp (mem_getD (d := (0, 0)) hk)
   refine ⟨?_, ?_, ?_, fun h0 => prK_sort (by omega) hk⟩ <;> (rw [h1]; simp only; omega)
 · have := prK_len (P46 n f) 7 49
   unfold L46; omega
theorem eg_L46 {n : Nat} {f : RF} {x y : Nat} (hx : x < 7) (hy : y < 7) : eg (L46 n f) x y = true ↔ (x < y ∧ y < n ∧ f x y = true) ∨ (y < x ∧ x < n ∧ f y x = true) := by
 unfold eg
 rw [List.any_eq_true]
 constructor
 · rintro ⟨e, h1, h2⟩
   obtain ⟨a, b, g1, g2, g3, g4, g5⟩ := L46_mem.mp h1
   rw [g1] at h2
   simp only [Bool.or_eq_true, Bool.and_eq_true, decide_eq_true_eq] at h2
   rcases h2 with h2 | h2
   · have : a = x := by omega
     have : b = y := by omega
     subst a b
     exact .inl ⟨g2, g3, g5⟩
   · have : a = y := by omega
     have : b = x := by omega
     subst a b
     exact .inr ⟨g2, g3, g5⟩
 · rintro (⟨h1, h2, h3⟩ | ⟨h1, h2, h3⟩)
   · exact ⟨((x : Int), (y : Int)), L46_mem.mpr ⟨x, y, rfl, h1, h2, hy, h3⟩, by simp⟩
   · exact ⟨((y : Int), (x : Int)), L46_mem.mpr ⟨y, x, rfl, h1, h2, hx, h3⟩, by simp⟩
/-- A graph. -/
structure gr (n : Nat) (f : RF) : Prop where
 n1 : 1 ≤ n
 hn : n ≤ 7
 lt : ∀ x y, f x y = true → x < n ∧ y < n
 sy : ∀ x y, f x y = f y x
 ir : ∀ x, f x x = false
theorem eg_sy (l : LP) (x y : Nat) : eg l x y = eg l y x := by
 unfold eg
 congr 1
 funext e
 exact Bool.or_comm _ _
theorem grOk.at {n : Int} {l : LP} (h : grOk n l) {y : PA} (hy : y ∈ l) : (0 ≤ y.1 ∧ y.1 < y.2) ∧ y.2 < n := by
 obtain ⟨i, hi, e⟩ := List.getElem_of_mem hy
 obtain ⟨h1, h2, h3, _⟩ := h.he i hi
 rw [getD_lt hi, e] at h1 h2 h3
 exact ⟨⟨h1, h2⟩, h3⟩
theorem gr_eg {n : Nat} {l : LP} (h : grOk n l) : gr n (eg l) := by
 obtain ⟨n1, n2⟩ := h.hn
 refine ⟨by omega, by omega, fun x y hxy => ?_, eg_sy l, fun x => ?_⟩
 · unfold eg at hxy
   obtain ⟨e, h1, h2⟩ := List.any_eq_true.mp hxy
   have := h.at h1
   simp only [Bool.or_eq_true, Bool.and_eq_true, decide_eq_true_eq] at h2
   omega
 · cases hx : eg l x x with
   | false => rfl
   | true =>
     unfold eg at hx
     obtain ⟨e, h1, h2⟩ := List.any_eq_true.mp hx
     have := h.at h1
     simp only [Bool.or_eq_true, Bool.and_eq_true, decide_eq_true_eq] at h2
     omega
theorem gr_ot {n : Nat} {f : RF} (h : gr n f) : gr n (otR n f) := by
 refine ⟨h.n1, h.hn, fun x y hxy => ?_, fun x y => ?_, fun x => ?_⟩
 · simp only [otR, Bool.and_eq_true, decide_eq_true_eq] at hxy
   exact hxy.1
 · unfold otR
   rw [h.sy x y, Bool.and_comm (decide (x < n)), show decide (x = y) = decide (y = x) from decide_eq_decide.mpr ⟨fun e => e.symm, fun e => e.symm⟩]
 · unfold otR; simp
theorem eg_back {n : Nat} {f : RF} (h : gr n f) {x y : Nat} (hx : x < 7) (hy : y < 7) : eg (L46 n f) x y = f x y := by
 rw [Bool.eq_iff_iff, eg_L46 hx hy]
 constructor
 · rintro (⟨_, _, h1⟩ | ⟨_, _, h1⟩)
   · exact h1
   · rw [h.sy]; exact h1
 · intro h1
   have h2 := h.lt x y h1
   have hne : x ≠ y := fun e => by rw [e, h.ir] at h1; cases h1
   rcases Nat.lt_or_gt_of_ne hne with h3 | h3
   · exact .inl ⟨h3, h2.2, h1⟩
   · exact .inr ⟨h3, h2.1, by rw [h.sy]; exact h1⟩
theorem fcl_in {f : RF} {a b : Nat} (h : f a b = true) : ∀ {k : Nat} {y : PA}, y ∈ fcl f a b k → f y.1.toNat y.2.toNat = true
 | 0, y, hy => by rw [fcl, List.mem_singleton] at hy; rw [hy]; exact h
 | k + 1, y, hy => by
   rw [fcl, List.mem_append, List.mem_append] at hy
   rcases hy with (hy | hy) | hy
   · exact fcl_in h hy
   · unfold fc1 at hy
     split at hy
     · rename_i hc; rw [List.mem_singleton] at hy; rw [hy]; exact hc.2.1
     · cases hy
   · unfold fc2 at hy
     split at hy
     · rename_i hc; rw [List.mem_singleton] at hy; rw [hy]; exact hc.2.1
     · cases hy
def inF (f : RF) (l : LP) : Prop := ∀ y, y ∈ l → f y.1.toNat y.2.toNat = true
theorem fold_in {f : RF} {i : Nat} : ∀ {l : LP} {s : MA × LP}, inF f s.2 → inF f l → inF f (l.foldl (stp i) s).2
 | [], _, h, _ => h
 | y :: l, s, h, hl => fold_in (l := l) (s := stp i s y) (by
   unfold stp
   split
   · exact h
   · intro z hz
     rcases List.mem_append.mp hz with h1 | h1
     · exact h z h1
     · rw [List.mem_singleton.mp h1]; exact hl y (by simp)) fun z hz => hl z (by simp [hz])
theorem rst_in {f : RF} {n : Nat} {s : MA × LP} (h : inF f s.2) : ∀ k, inF f (rst f n s k).2
 | 0 => h
 | k + 1 => by
   have ih := rst_in (n := n) h k
   rw [rst]
   split
   · rename_i hk
     exact fold_in ih fun y hy => fcl_in (ih _ (mem_getD hk)) hy
   · exact ih
theorem rch_in {f : RF} {n : Nat} {a b : Int} (h : f a.toNat b.toNat = true) : inF f (rch f n a b).2 := rst_in (fun y hy => by
 have : y = (a, b) := List.mem_singleton.mp hy
 rw [this]; exact h) 49
/-- The relation that is made goes along the edges, one way or both. -/
structure ori (n : Nat) (f o g : RF) : Prop where
 gg : gr n g
 of : ∀ x y, x < 7 → y < 7 → (f x y = true ↔ o x y = true ∨ o y x = true ∨ g x y = true)
 oi : ∀ x y, o x y = true → f x y = true
theorem ori_step {n : Nat} {f o g : RF} {a b : Int} (h : ori n f o g) (ha : 0 ≤ a ∧ a < n) (hb : 0 ≤ b ∧ b < n) (hab : g a.toNat b.toNat = true) : ori n f (adL o (rch g n a b).2) (dlL g (rch g n a b).2) := by
 have hc := rch_rg7 (f := g) h.gg.hn ha hb
 have hi := rch_in (n := n) hab
 have hp : ∀ z, z ∈ (rch g n a b).2 → 0 ≤ z.1 ∧ 0 ≤ z.2 := fun z hz => by have := hc.2 z hz; omega
 have hgi : ∀ x y : Nat, ((x : Int), (y : Int)) ∈ (rch g n a b).2 → g x y = true := fun x y hxy => hi _ hxy
 generalize (rch g n a b).2 = c at *
 have hlt : ∀ x y, g x y = true → x < 7 ∧ y < 7 := fun x y hxy => by have := h.gg.lt x y hxy; have := h.gg.hn; omega
 refine ⟨⟨h.gg.n1, h.gg.hn, fun x y hxy => h.gg.lt x y ((dlL_iff hp).mp hxy).1, fun x y => ?_, fun x => ?_⟩, fun x y hx hy => ?_, fun x y hxy => ?_⟩
 · rw [Bool.eq_iff_iff, dlL_iff hp, dlL_iff hp, h.gg.sy x y]
   exact ⟨fun ⟨h1, h2, h3⟩ => ⟨h1, h3, h2⟩, fun ⟨h1, h2, h3⟩ => ⟨h1, h3, h2⟩⟩
 · cases hx : dlL g c x x with
   | false => rfl
   | true => have := ((dlL_iff hp).mp hx).1; rw [h.gg.ir] at this; cases this
 · rw [h.of x y hx hy, adL_iff hp, adL_iff hp, dlL_iff hp]
   constructor
   · rintro (h1 | h1 | h1)
     · exact .inl (.inl h1)
     · exact .inr (.inl (.inl h1))
     · by_cases e1 : ((x : Int), (y : Int)) ∈ c
       · exact .inl (.inr e1)
       · by_cases e2 : ((y : Int), (x : Int)) ∈ c
         · exact .inr (.inl (.inr e2))
         · exact .inr (.inr ⟨h1, e1, e2⟩)
   · rintro ((h1 | h1) | (h1 | h1) | h1)
     · exact .inl h1
     · exact .inr (.inr (hgi _ _ h1))
     · exact .inr (.inl h1)
     · exact .inr (.inr (by rw [h.gg.sy]; exact hgi _ _ h1))
     · exact .inr (.inr h1.1)
 · rcases (adL_iff hp).mp hxy with h1 | h1
   · exact h.oi x y h1
   · have := hgi _ _ h1
     exact (h.of x y (hlt _ _ this).1 (hlt _ _ this).2).mpr (.inr (.inr this))
theorem orI_ori {n : Nat} {f : RF} : ∀ {k : Nat} {o g r : RF}, ori n f o g → orI n k o g = some r → (∀ x y, x < 7 → y < 7 → (f x y = true ↔ r x y = true ∨ r y x = true)) ∧ ∀ x y, r x y = true → f x y = true
 | 0, _, _, _, _, h => by cases h
 | k + 1, o, g, r, ho, h => by
   rw [orI] at h
   split at h
   · rename_i hL
     injection h with h; subst h
     refine ⟨fun x y hx hy => ?_, ho.oi⟩
     rw [ho.of x y hx hy]
     have : ¬ g x y = true := fun h1 => by
       have h2 := ho.gg.lt x y h1
       have : ((x : Int), (y : Int)) ∈ L62 n g := (L62_mem ho.gg.hn).mpr ⟨x, y, rfl, h2.1, h2.2, h1⟩
       rw [hL] at this; cases this
     simp [this]
   · rename_i y l hL
     split at h
     · cases h
     · have hm : y ∈ L62 n g := by rw [hL]; simp
       obtain ⟨a, b, h1, h2, h3, h4⟩ := (L62_mem ho.gg.hn).mp hm
       exact orI_ori (ori_step ho (by rw [h1]; simp only; omega) (by rw [h1]; simp only; omega) (by rw [h1]; exact h4)) h
/-- An order of a graph. -/
structure isOr (n : Nat) (f r : RF) : Prop where
 tr : trB r = true
 of : ∀ x y, x < 7 → y < 7 → (f x y = true ↔ r x y = true ∨ r y x = true)
 oi : ∀ x y, r x y = true → f x y = true
theorem orR_isOr {n : Nat} {f : RF} (hg : gr n f) (h : (orR n f).2 = true) : isOr n f (orR n f).1 := by
 have ht := orR_tr h
 unfold orR at h ht ⊢
 split
 · rename_i e; rw [e] at h; cases h
 · rename_i o e
   rw [e] at ht
   have := orI_ori (n := n) (f := f) ⟨hg, fun x y _ _ => by simp [zf], fun x y h => by cases h⟩ e
   exact ⟨ht, this.1, this.2⟩
end Go.Am.Or

/- Orders: the reference: joined, colours. -/
namespace Go.Am.Or
open Go Go.Am Go.Proofs
def hasB (l : LP) (x : PA) : Bool := decide (x ∈ l)
noncomputable def L36_0 : Code := lp (bodyOf Try.f36) 0
def st36 (l : LP) (x : PA) (i : Nat) : St := ⟨(.sl P2 l :: dd 2 ++ .ptr 0 0 [] :: .dead :: .int .i64 i :: dd 12), [.bx (pa x.1 x.2)]⟩
def ex36 (l : LP) (x : PA) : List (List Nat × Ex) := [([], ⟨0, Unit, fun _ => ¬ x ∈ l, fun _ => ⟨(dd 18), []⟩⟩)]
def h36 (l : LP) (x : PA) : Hint := ⟨chk 0 [0, 3, 5] (fun i => i ≤ l.length ∧ ¬ x ∈ l.take i) (st36 l x), (ex36 l x).map (·.2)⟩
theorem loop36 (l : LP) (x : PA) (hl : l.length < 1000000000000000) : LoopOK (X []) L36_0 (h36 l x) (RetR (X []) true false [.tmp 4] [.bool (hasB l x)] []) := by
 refine loop_ok (X_ok _) (H := fun _ _ => none) [0, 3, 5] (fun i => i ≤ l.length ∧ ¬ x ∈ l.take i) (st36 l x) (fun i => l.length - i) (ex36 l x) 200 fun (i : Nat) hi => ?_
 refine of_eq (q := (fun (d : Int × Int) => (fun (c : Int) => (fun (b : Prop) => (fun (a : Prop) => b ∧ b ∧ b ∧ b ∧ (c < (↑(List.length l) : Int) → b ∧ b ∧ idxPre c (List.length l) ∧ b ∧ b ∧ b ∧ (a → b ∧ b ∧ (true = hasB l x ∧ b) ∧ b) ∧ (¬a → b ∧ inR .i64 (c + 1) ∧ b ∧ ∃ (y : Nat), ((y ≤ List.length l ∧ ¬x ∈ List.take y l) ∧ List.length l - y < List.length l - i) ∧ (l = l ∧ b ∧ c + 1 = (y : Int) ∧ b) ∧ [x.fst, x.snd] = [x.fst, x.snd] ∧ b)) ∧ (¬c < (↑(List.length l) : Int) → ∃ (y : Unit), ¬x ∈ l ∧ b ∧ b)) ((d.fst, d.snd) = (x.fst, x.snd))) (True)) ((i : Int))) (List.getD l i ((0 : Int), (0 : Int)))) (by kernel_rfl) ?_
 simp only [zz]
 obtain ⟨i1, i2⟩ := hi
 refine ⟨fun h1 => ?_, fun h1 => by rwa [List.take_of_length_le (by omega)] at i2⟩
 have h1 : i < l.length := by omega
 have hm := mem_getD (d := (0, 0)) h1
 have ht := take_getD (d := (0, 0)) h1
 refine ⟨idx_nat h1, fun h2 => ?_, fun h2 => ⟨by simp only [inR]; omega, i + 1, ⟨⟨by omega, ?_⟩, by omega⟩, by omega⟩⟩
 · have h2 : l.getD i (0, 0) = x := h2
   exact (decide_eq_true (h2 ▸ hm)).symm
 · have h2 : ¬ l.getD i (0, 0) = x := h2
   rw [ht, List.mem_append, List.mem_singleton]
   exact fun h => h.elim i2 fun h => h2 h.symm
theorem call36 (l : LP) (x : PA) (hl : (l : LP).length < 1000000000000000) : GCall Try.prog gl 36 true [.sl P2 l, pa x.1 x.2] [] [.bool (hasB l x)] [] := by
 refine gcall_of (X := (X [])) ((X_ok _)) (f := 36) (fn := Try.f36) (c := bodyOf Try.f36) (by kernel_rfl) (by kernel_rfl) (view := false) (rvs := [.tmp 4]) (by kernel_rfl) (H := (fun _ => some (h36 l x))) 150 (by kernel_rfl) ?_
 have hL := loop36 l x hl
 refine of_eq (q := (fun (a : Prop) => a ∧ a ∧ a ∧ LoopOK (X []) L36_0 (h36 l x) (RetR (X []) true false [ResultVar.tmp (4 : Tmp)] [AV.bool (hasB l x)] []) ∧ (∃ (y : Nat), (y ≤ List.length l ∧ ¬x ∈ List.take y l) ∧ (l = l ∧ a ∧ (0 : Int) = (y : Int) ∧ a) ∧ [x.fst, x.snd] = [x.fst, x.snd] ∧ a) ∧ (∀ (y : Unit), ¬x ∈ l → a ∧ a ∧ (false = hasB l x ∧ a) ∧ a) ∧ a) (True)) (by kernel_rfl) ?_
 simp only [zz]
 exact ⟨hL, ⟨0, ⟨Nat.zero_le _, by simp⟩, rfl⟩, fun _ h => (decide_eq_false h).symm⟩
def e36 : Entry Try.prog gl := entry2 36 ⟨Try.f36, by kernel_rfl, by kernel_rfl, by kernel_rfl⟩ SP P2 (fun l _ => (l : LP).length < 1000000000000000) true (fun l x => [.bool (hasB l x)]) (fun _ _ => []) (fun l x h => call36 l x h)
def jnB (l : LP) (a b : Int) : Bool := hasB l (minI a b, maxI a b)
theorem call58 (l : LP) (a b : Int) (hl : (l : LP).length < 1000000000000000) : GCall Try.prog gl 58 true [.sl P2 l, .int .i64 a, .int .i64 b] [] [.bool (jnB l a b)] [] := by
 refine gcall_of (X := (X [e36])) ((X_ok _)) (f := 58) (fn := Try.f58) (c := bodyOf Try.f58) (by kernel_rfl) (by kernel_rfl) (view := false) (rvs := [.tmp 6]) (by kernel_rfl) (H := fun _ => none) 150 (by kernel_rfl) ?_
 refine of_eq (q := (fun (c : Prop) => c ∧ c ∧ c ∧ c ∧ c ∧ c ∧ c ∧ c ∧ c ∧ (List.length l + 1 ≤ 1000000000000000 ∧ c) ∧ c ∧ c ∧ (hasB l (minI a b, maxI a b) = jnB l a b ∧ c) ∧ c) (True)) (by kernel_rfl) ?_
 simp only [zz]
 exact ⟨hl, rfl⟩
def e58 : Entry Try.prog gl := entry3 58 ⟨Try.f58, by kernel_rfl, by kernel_rfl, by kernel_rfl⟩ SP I64 I64 (fun l _ _ => (l : LP).length < 1000000000000000) true (fun l (a b : Int) => [.bool (jnB l a b)]) (fun _ _ _ => []) (fun l (a b : Int) h => call58 l a b h)
def kB (e : LP) (l : List Int) (c : Int) : Nat → Bool
 | 0 => true
 | u + 1 => kB e l c u && (!decide (l.getD u 0 = c) || !jnB e u l.length)
def colB (e : LP) (k : Nat) : Nat → List Int → Bool
 | 0, _ => true
 | d + 1, l => (List.range k).any fun c => kB e l c l.length && colB e k d (l ++ [(c : Int)])
structure ok75 (n : Nat) (e : LP) (k d : Nat) (l : List Int) : Prop where
 hn : n ≤ 7
 hk : k ≤ 8
 d : l.length + d = n
 e : e.length < 1000000000000000
structure G75 where
 n : Int
 e : LP
 k : Int
 l : List Int
structure ok75G (x : G75) : Prop where
 n : 0 ≤ x.n
 k : 0 ≤ x.k
 o : ok75 x.n.toNat x.e x.k.toNat x.n.toNat []
 l : x.l = []
def clB (n : Nat) (e : LP) (k : Nat) : Bool := decide (1 ≤ k) && colB e k n []
def clN (n : Nat) (e : LP) : Nat := ((List.range (n + 1)).find? (clB n e)).getD 0
structure ia33 (n : Nat) (e : LP) (k : Nat) : Prop where
 h1 : 1 ≤ k
 hk : k ≤ n
 h : ∀ j, 1 ≤ j → j < k → colB e j n [] = false
end Go.Am.Or

/- Orders: Mirsky's theorem. -/
namespace Go.Am.Or
open Go Go.Am Go.Proofs
theorem jn_eg {n : Nat} {e : LP} (he : grOk n e) {u v : Nat} (h : u < v) : jnB e u v = true ↔ eg e u v = true := by
 unfold jnB hasB minI maxI
 rw [if_neg (by omega), if_pos (by omega), decide_eq_true_eq]
 unfold eg
 rw [List.any_eq_true]
 constructor
 · intro hm
   exact ⟨_, hm, by simp⟩
 · rintro ⟨x, hx, h1⟩
   have := he.at hx
   simp only [Bool.or_eq_true, Bool.and_eq_true, decide_eq_true_eq] at h1
   have e1 : x = ((u : Int), (v : Int)) := Prod.ext (by simp only; omega) (by simp only; omega)
   rw [← e1]; exact hx
end Go.Am.Or

/- Orders: the law of Mirsky. -/
namespace Go.Am.Or
open Go Go.Am Go.Proofs
def mxT (l : List Int) : Nat → Int
 | 0 => 0
 | i + 1 => maxI (mxT l i) (l.getD i 0)
structure p6 (m : Nat) (o : LP) (y : List Int) : Prop where
 hm : m ≤ 7
 hy : y.length = m
 ho : o.length ≤ 1000
 r : ∀ i, i < o.length → ((0 ≤ (o.getD i (0, 0)).1 ∧ (o.getD i (0, 0)).1 < m) ∧ (0 ≤ (o.getD i (0, 0)).2 ∧ (o.getD i (0, 0)).2 < m)) ∧ y.getD (o.getD i (0, 0)).1.toNat 0 < y.getD (o.getD i (0, 0)).2.toNat 0
structure F6 (m : Nat) (e : LP) : Prop where
 m1 : 1 ≤ m
 m7 : m ≤ 7
 ge : grOk m e
 le : e.length < 1000000000000000
 tk : (orR m (eg e)).2 = true → orOk m (orL m e)
 pp : (orR m (eg e)).2 = true → p6 m (orL m e) (lyS (adL zf (orL m e)) m m)
 tp : (orR m (eg e)).2 = true → mxT (lyS (adL zf (orL m e)) m m) m = ((chR (adL zf (orL m e)) m).length : Int) - 1
 cc : (orR m (eg e)).2 = true → (clN m e : Int) = (chR (adL zf (orL m e)) m).length
 lc : (chR (adL zf (orL m e)) m).length ≤ 9
end Go.Am.Or

/- Orders: two lists of all nodes. -/
namespace Go.Am.Or
open Go Go.Am Go.Proofs
def atV (b : List Int) (v : Nat) : Nat := if v < b.length then (tmc (v + 1) (b.getD v 0)).toNat else 0
def ins (r : List Int) (p v : Nat) : List Int := r.take p ++ [(v : Int)] ++ r.drop p
def rwK (b : List Int) : Nat → List Int
 | 0 => []
 | v + 1 => ins (rwK b v) (atV b v) v
theorem rwK_len (b : List Int) : ∀ v, (rwK b v).length = v
 | 0 => rfl
 | v + 1 => by
   rw [rwK, ins, List.length_append, List.length_append, List.length_take, List.length_drop, List.length_singleton, rwK_len b v]
   omega
theorem atV_le (b : List Int) (v : Nat) : atV b v ≤ v := by
 unfold atV
 split
 · have := tmc_bd (m := v + 1) (by omega) (b.getD v 0)
   omega
 · exact Nat.zero_le _
def ouK (by0 : List (List Int)) (n : Nat) : Nat → List (List Int)
 | 0 => [[], []]
 | k + 1 => (ouK by0 n k).set k (rwK (by0.getD k []) n)
def nH : Nat → Option Hint := fun _ => none
def h23 (ts : List Nat) (i : Nat) : Bool := ts.any fun t => Nat.beq i t
noncomputable abbrev X23 (ts : List Nat) : Cy := Xw [] (h23 (13 :: 38 :: ts))
noncomputable def L23_0 : Code := lp (bodyOf Try.f23) 0
noncomputable def L23_2 : Code := lp (bodyOf Try.f23) 2
def sN23 (n : Nat) (bs : List (List Int)) (k : Nat) : St := ⟨(.int .i64 n :: dd 2 ++ .ptr 0 0 [] :: .dead :: .ptr 1 0 [] :: .ptr 2 0 [] :: .int .i64 k :: nl :: .int .i64 0 :: dd 53), [.bx (.ar SI 2 bs), .bx (.ar SI 2 [[], []]), .bx (.ar SI 2 (ouK bs n k))]⟩
def sO23 (n : Nat) (bs : List (List Int)) (k v : Nat) : St := ⟨(.int .i64 n :: dd 2 ++ .ptr 0 0 [] :: .dead :: .ptr 1 0 [] :: .ptr 2 0 [] :: .int .i64 k :: .own 3 0 :: .int .i64 ((v : Int) + 1) :: dd 53), [.bx (.ar SI 2 bs), .bx (.ar SI 2 [[], []]), .bx (.ar SI 2 (ouK bs n k)), .sc 0 3 I64 (rwK (bs.getD k []) (v + 1))]⟩
def fb23 (n : Nat) (bs : List (List Int)) (k : Nat) : List Fam := [⟨Unit, fun _ => True, fun _ => sN23 n bs k, fun _ => n + 1, fun _ => nH⟩, ⟨Nat, fun v => v + 1 ≤ n, sO23 n bs k, fun v => n - v, fun _ => nH⟩]
def xb23 (n : Nat) (bs : List (List Int)) (k : Nat) : List (List Nat × Ex) := [([0, 3, 5, 6, 7, 8], ⟨2, Unit, fun _ => True, fun _ => ⟨(.int .i64 n :: dd 2 ++ .ptr 0 0 [] :: .dead :: .ptr 1 0 [] :: .ptr 2 0 [] :: .int .i64 k :: .own 3 0 :: dd 54), [.bx (.ar SI 2 bs), .bx (.ar SI 2 [[], []]), .bx (.ar SI 2 (ouK bs n k)), .sc 0 3 I64 (rwK (bs.getD k []) n)]⟩⟩)]
def hb23 (n : Nat) (bs : List (List Int)) (k : Nat) : Hint := ⟨chks 0 [0, 3, 5, 6, 7, 8, 9] (fb23 n bs k), (xb23 n bs k).map (·.2)⟩
theorem tkS {l : List Int} {x : Int} : List.take (bHi l.length (some x) - bLo none) (List.drop (bLo none) l) = l.take x.toNat := by
 simp [bHi, bLo]
theorem dpS {l : List Int} {x : Int} : List.take (bHi l.length none - bLo (some x)) (List.drop (bLo (some x)) l) = l.drop x.toNat := by
 simp [bHi, bLo]
 try exact List.take_of_length_le (by simp)
theorem atV_lt {b : List Int} {v : Nat} (h : v < b.length) : ((atV b v : Nat) : Int) = (modU .u64 (b.getD v 0)).tmod ((v : Int) + 1) := by
 unfold atV
 rw [if_pos h]
 have := tmc_bd (m := v + 1) (by omega) (b.getD v 0)
 unfold tmc at this ⊢
 rw [Int.natCast_add, Int.natCast_one] at this ⊢
 omega
theorem atV_ge {b : List Int} {v : Nat} (h : ¬ v < b.length) : atV b v = 0 := by unfold atV; rw [if_neg h]
theorem insN {r : List Int} {v n : Nat} (hr : r.length = v + 1) (h1 : v + 1 < n) (hn : n ≤ 7) {w : Nat → List Int} (e : w (v + 1 + 1) = [(v : Int) + 1] ++ r) {x : Int} (hx : x = 0) : slPre r.length r.length none (some x) none ∧ (List.take (bHi r.length (some x) - bLo none) (List.drop (bLo none) r) = [] ∧ sumPre 0 (List.take (bHi r.length (some x) - bLo none) (List.drop (bLo none) r)).length 8) ∧ sumPre 0 [(v : Int) + 1].length 8 ∧ slPre r.length r.length (some x) none none ∧ sumPre [(v : Int) + 1].length (List.take (bHi r.length none - bLo (some x)) (List.drop (bLo (some x)) r)).length 8 ∧ inR .i64 ((v : Int) + 1 + 1) ∧ ∃ y : Nat, (y + 1 ≤ n ∧ n - y < n - v) ∧ (v : Int) + 1 + 1 = y + 1 ∧ [(v : Int) + 1] ++ List.take (bHi r.length none - bLo (some x)) (List.drop (bLo (some x)) r) = w (y + 1) := by
 subst hx
 rw [tkS, dpS]
 simp only [Int.toNat_zero, List.take_zero, List.drop_zero, List.length_nil, List.length_singleton, hr]
 exact ⟨by simp only [slPre]; omega, ⟨trivial, by simp [sumPre]⟩, by simp [sumPre], by simp only [slPre]; omega, by unfold sumPre; omega, by simp only [inR]; omega, v + 1, ⟨by omega, by omega⟩, by omega, e.symm⟩
theorem insO {r : List Int} {v n q : Nat} (hr : r.length = v + 1) (h1 : v + 1 < n) (hn : n ≤ 7) (hq : q ≤ v + 1) (h0 : ¬ q = 0) {w : Nat → List Int} (e : w (v + 1 + 1) = r.take q ++ [(v : Int) + 1] ++ r.drop q) {x : Int} (hx : x = q) : slPre r.length r.length none (some x) none ∧ (List.take (bHi r.length (some x) - bLo none) (List.drop (bLo none) r) ≠ [] ∧ sumPre 0 (List.take (bHi r.length (some x) - bLo none) (List.drop (bLo none) r)).length 8) ∧ sumPre (List.take (bHi r.length (some x) - bLo none) (List.drop (bLo none) r)).length [(v : Int) + 1].length 8 ∧ slPre r.length r.length (some x) none none ∧ sumPre (List.take (bHi r.length (some x) - bLo none) (List.drop (bLo none) r) ++ [(v : Int) + 1]).length (List.take (bHi r.length none - bLo (some x)) (List.drop (bLo (some x)) r)).length 8 ∧ inR .i64 ((v : Int) + 1 + 1) ∧ ∃ y : Nat, (y + 1 ≤ n ∧ n - y < n - v) ∧ (v : Int) + 1 + 1 = y + 1 ∧ (List.take (bHi r.length (some x) - bLo none) (List.drop (bLo none) r) ++ [(v : Int) + 1]) ++ List.take (bHi r.length none - bLo (some x)) (List.drop (bLo (some x)) r) = w (y + 1) := by
 subst hx
 rw [tkS, dpS, Int.toNat_natCast]
 have hlt : (r.take q).length = q := by rw [List.length_take, hr]; omega
 have hld : (r.drop q).length = v + 1 - q := by rw [List.length_drop, hr]
 simp only [List.length_append, List.length_singleton, hlt, hld, hr]
 exact ⟨by simp only [slPre]; omega, ⟨fun e => h0 (by rw [← hlt, e]; rfl), by unfold sumPre; omega⟩, by unfold sumPre; omega, by simp only [slPre]; omega, by unfold sumPre; omega, by simp only [inR]; omega, v + 1, ⟨by omega, by omega⟩, by omega, e.symm⟩
theorem loop23b (n : Nat) (n1 : 1 ≤ n) (hn : n ≤ 7) (bs : List (List Int)) (hb : bs.length = 2) (k : Nat) (hk : k < 2) (R : Exit → St → Prop) : LoopOK (X23 []) L23_2 (hb23 n bs k) R := by
 refine loop_famsX [0, 3, 5, 6, 7, 8, 9] (fb23 n bs k) (xb23 n bs k) 250 ⟨fun (_ : Unit) _ => ?_, fun (v : Nat) hv => ?_, trivial⟩
 · refine ⟨X23 [1000048], Xw_ok _ _, rfl, rfl, rfl, rfl, ?_⟩
   refine of_eq (q := (fun (p : Nat) => (fun (m : Nat) => (fun (l : Int) => (fun (j : Option Int) => (fun (i : List (List Int)) => (fun (h : Int) => (fun (g : Int) => (fun (f : Int) => (fun (e : Nat) => (fun (o : Prop) => (fun (d : Prop) => (fun (c : Prop) => (fun (b : Int) => (fun (a : Prop) => c ∧ c ∧ c ∧ (f < g → c ∧ c ∧ c ∧ idxPre h (2 : Nat) ∧ c ∧ c ∧ c ∧ (f < (m : Int) → c ∧ idxPre h (2 : Nat) ∧ c ∧ c ∧ idxPre f m ∧ c ∧ c ∧ c ∧ inR .i64 l ∧ inR .u64 l ∧ ¬l = f ∧ inR .i64 b ∧ c ∧ c ∧ c ∧ c ∧ c ∧ slPre e e j (some b) j ∧ sumPre e e (nat_lit 8) ∧ c ∧ c ∧ c ∧ c ∧ o ∧ c ∧ c ∧ c ∧ c ∧ slPre e e (some b) j j ∧ a) ∧ (¬f < (m : Int) → c ∧ c ∧ c ∧ c ∧ slPre e e j (some f) j ∧ sumPre e e (nat_lit 8) ∧ c ∧ c ∧ c ∧ c ∧ o ∧ c ∧ c ∧ c ∧ c ∧ slPre e e (some f) j j ∧ a)) ∧ (¬f < g → ∃ (y : Unit), c ∧ (g = g ∧ c ∧ c ∧ c ∧ h = h ∧ False ∧ c) ∧ bs = bs ∧ d ∧ i = i ∧ False)) (sumPre [f].length e (nat_lit 8) ∧ c ∧ c ∧ inR .i64 l ∧ c ∧ ((∃ (y : Unit), (c ∧ n + p < n + p) ∧ (g = g ∧ c ∧ c ∧ c ∧ h = h ∧ False ∧ l = f ∧ c) ∧ bs = bs ∧ d ∧ i = i ∧ c) ∨ ∃ (y : Nat), (y + p ≤ n ∧ n - y < n + p) ∧ (g = g ∧ c ∧ c ∧ c ∧ h = h ∧ c ∧ l = (y : Int) + l ∧ c) ∧ bs = bs ∧ d ∧ i = i ∧ [f] ++ [] = rwK (bs.getD k []) (y + p) ∧ c))) ((modU .u64 (List.getD (bs.getD k []) e f)).tmod l)) (True)) (([] : List Int) :: ([] : List Int) :: ([] : List (List Int)) = [[], []])) (sumPre e [f].length (nat_lit 8))) ((0 : Nat))) ((0 : Int))) ((n : Int))) ((k : Int))) (ouK bs n k)) (none)) ((1 : Int))) (List.length (bs.getD k []))) ((1 : Nat))) (by kernel_rfl) ?_
   simp only [zz]
   have hx : (modU .u64 (List.getD (bs.getD k []) 0 0)).tmod 1 = 0 := Int.tmod_one _
   have h0 : atV (bs.getD k []) 0 = 0 := Nat.le_zero.mp (atV_le _ 0)
   have e1 : ([0] ++ [] : List Int) = rwK (bs.getD k []) (0 + 1) := by rw [rwK, ins, h0]; try rfl
   have hi : idxPre (k : Int) 2 := by unfold idxPre; omega
   rw [hx]
   have fin : sumPre 0 0 8 ∧ sumPre 0 ([0] : List Int).length 8 ∧ slPre 0 0 (some 0) none none ∧ sumPre ([0] : List Int).length 0 8 ∧ inR .i64 1 ∧ ∃ y : Nat, (y + 1 ≤ n ∧ n - y < n + 1) ∧ (1 : Int) = y + 1 ∧ ([0] ++ [] : List Int) = rwK (bs.getD k []) (y + 1) :=
     ⟨by simp [sumPre], by simp [sumPre], by simp [slPre], by simp [sumPre], by simp [inR], 0, ⟨n1, by omega⟩, rfl, e1⟩
   exact ⟨fun _ => ⟨hi, fun h1 => ⟨hi, by unfold idxPre; omega, by simp [inR], by simp [inR], by decide, by simp [inR], by simp [slPre], fin⟩, fun _ => ⟨by simp [slPre], fin⟩⟩, fun h => by omega⟩
 · have hv : v + 1 ≤ n := hv
   have hr := rwK_len (bs.getD k []) (v + 1)
   have hle := atV_le (bs.getD k []) (v + 1)
   have hx := atV_lt (b := bs.getD k []) (v := v + 1)
   have hge := atV_ge (b := bs.getD k []) (v := v + 1)
   have eins : rwK (bs.getD k []) (v + 1 + 1) = (rwK (bs.getD k []) (v + 1)).take (atV (bs.getD k []) (v + 1)) ++ [(v : Int) + 1] ++ (rwK (bs.getD k []) (v + 1)).drop (atV (bs.getD k []) (v + 1)) := by rw [rwK, ins]; try rfl
   have hi : idxPre (k : Int) 2 := by unfold idxPre; omega
   have i1 : inR .i64 ((v : Int) + 1 + 1) := by simp only [inR]; omega
   have i2 : inR .u64 ((v : Int) + 1 + 1) := by simp only [inR]; omega
   have i3 : ¬ (v : Int) + 1 + 1 = 0 := by omega
   rw [show (((v + 1 : Nat) : Int) + 1) = (v : Int) + 1 + 1 by omega] at hx
   by_cases h0 : atV (bs.getD k []) (v + 1) = 0
   · refine ⟨X23 [1000048], Xw_ok _ _, rfl, rfl, rfl, rfl, ?_⟩
     refine of_eq (q := (fun (A : List Int) => (fun (u : Nat) => (fun (t : Nat) => (fun (m : Int) => (fun (l : Int) => (fun (i : Prop) => (fun (h : Option Int) => (fun (g : Option Int) => (fun (q : Nat) => (fun (f : Prop) => (fun (e : Prop) => (fun (c : Int) => (fun (w : Prop) => (fun (o : Int) => (fun (d : Prop) => (fun (b : Int) => (fun (s : Option Int) => (fun (a : List Int) => (fun (j : Nat) => (fun (z : List Int) => (fun (x : List Int) => (fun (r : List Int) => (fun (p : List Int) => f ∧ f ∧ f ∧ (c < m → f ∧ f ∧ f ∧ idxPre l (2 : Nat) ∧ f ∧ f ∧ f ∧ (c < (t : Int) → f ∧ idxPre l (2 : Nat) ∧ f ∧ f ∧ idxPre c t ∧ f ∧ f ∧ f ∧ inR .i64 o ∧ inR .u64 o ∧ ¬o = 0 ∧ inR .i64 b ∧ f ∧ f ∧ f ∧ f ∧ f ∧ slPre j j g s g ∧ (z = [] ∧ sumPre (0 : Nat) z.length (nat_lit 8)) ∧ f ∧ f ∧ f ∧ f ∧ w ∧ f ∧ f ∧ f ∧ f ∧ slPre j j s g g ∧ sumPre [c].length p.length (nat_lit 8) ∧ f ∧ f ∧ inR .i64 o ∧ f ∧ (d ∨ ∃ (y : Nat), (y + u ≤ n ∧ n - y < n - v) ∧ (m = m ∧ f ∧ f ∧ f ∧ l = l ∧ f ∧ o = (y : Int) + 1 ∧ f) ∧ bs = bs ∧ e ∧ i ∧ [c] ++ p = rwK A (y + u) ∧ f)) ∧ (¬c < (t : Int) → f ∧ f ∧ f ∧ f ∧ slPre j j g h g ∧ (x = [] ∧ sumPre (0 : Nat) x.length (nat_lit 8)) ∧ f ∧ f ∧ f ∧ f ∧ w ∧ f ∧ f ∧ f ∧ f ∧ slPre j j h g g ∧ sumPre [c].length r.length (nat_lit 8) ∧ f ∧ f ∧ inR .i64 o ∧ f ∧ (d ∨ ∃ (y : Nat), (y + u ≤ n ∧ n - y < n - v) ∧ (m = m ∧ f ∧ f ∧ f ∧ l = l ∧ f ∧ o = (y : Int) + 1 ∧ f) ∧ bs = bs ∧ e ∧ i ∧ [c] ++ r = rwK A (y + u) ∧ f))) ∧ (¬c < m → ∃ (y : Unit), f ∧ (m = m ∧ f ∧ f ∧ f ∧ l = l ∧ f ∧ f) ∧ bs = bs ∧ e ∧ i ∧ a = rwK A n ∧ f)) (List.take (bHi j g - bLo s) (List.drop (bLo s) a))) (List.take (bHi j g - bLo h) (List.drop (bLo h) a))) (List.take (bHi j h - q) (List.drop q a))) (List.take (bHi j s - q) (List.drop q a))) (a.length)) (rwK A (v + u))) (some b)) ((modU .u64 (List.getD (bs.getD k []) (v + u) (0 : Int))).tmod o)) (∃ (y : Unit), (f ∧ n + u < n - v) ∧ (m = m ∧ f ∧ f ∧ f ∧ l = l ∧ False ∧ o = 0 ∧ f) ∧ bs = bs ∧ e ∧ i ∧ f)) (c + 1)) (sumPre (0 : Nat) [c].length (nat_lit 8))) ((v : Int) + 1)) (([] : List Int) :: ([] : List Int) :: ([] : List (List Int)) = [[], []])) (True)) (bLo g)) (none)) (some (0 : Int))) (ouK bs n k = ouK bs n k)) ((k : Int))) ((n : Int))) (List.length (bs.getD k []))) ((1 : Nat))) (bs.getD k [])) (by kernel_rfl) ?_
     simp only [zz]
     have e0 : rwK (bs.getD k []) (v + 1 + 1) = [(v : Int) + 1] ++ rwK (bs.getD k []) (v + 1) := by rw [eins, h0]; try rfl
     refine ⟨fun h1 => ⟨hi, fun h2 => ⟨hi, by unfold idxPre; omega, i1, i2, i3, ?_, insN hr (by omega) hn e0 ((hx (by omega)).symm.trans (by rw [h0]; rfl))⟩, fun h2 => insN hr (by omega) hn e0 rfl⟩, fun h1 => by rw [show v + 1 = n by omega]⟩
     rw [← hx (by omega)]; simp only [inR]; omega
   · refine ⟨X23 [48], Xw_ok _ _, rfl, rfl, rfl, rfl, ?_⟩
     refine of_eq (q := (fun (x : List Int) => (fun (w : Nat) => (fun (u : Nat) => (fun (p : Int) => (fun (o : Int) => (fun (l : Option Int) => (fun (j : Prop) => (fun (i : Option Int) => (fun (h : Prop) => (fun (g : Prop) => (fun (c : Int) => (fun (m : Int) => (fun (r : Int) => (fun (f : Prop) => (fun (b : Option Int) => (fun (a : List Int) => (fun (q : Nat) => (fun (t : List Int) => (fun (s : List Int) => (fun (e : List Int) => (fun (d : List Int) => h ∧ h ∧ h ∧ (c < p → h ∧ h ∧ h ∧ idxPre o (2 : Nat) ∧ h ∧ h ∧ h ∧ (c < (u : Int) → h ∧ idxPre o (2 : Nat) ∧ h ∧ h ∧ idxPre c u ∧ h ∧ h ∧ h ∧ inR .i64 m ∧ inR .u64 m ∧ ¬m = 0 ∧ inR .i64 r ∧ h ∧ h ∧ h ∧ h ∧ h ∧ slPre q q i b i ∧ (e ≠ [] ∧ sumPre (0 : Nat) e.length (nat_lit 8)) ∧ h ∧ h ∧ h ∧ h ∧ sumPre e.length [c].length (nat_lit 8) ∧ h ∧ h ∧ h ∧ h ∧ slPre q q b i i ∧ sumPre (e ++ [c]).length s.length (nat_lit 8) ∧ h ∧ h ∧ inR .i64 m ∧ h ∧ (f ∨ ∃ (y : Nat), (y + w ≤ n ∧ n - y < n - v) ∧ (p = p ∧ h ∧ h ∧ h ∧ o = o ∧ h ∧ m = (y : Int) + 1 ∧ h) ∧ bs = bs ∧ g ∧ j ∧ e ++ [c] ++ s = rwK x (y + w) ∧ h)) ∧ (¬c < (u : Int) → h ∧ h ∧ h ∧ h ∧ slPre q q i l i ∧ (d ≠ [] ∧ sumPre (0 : Nat) d.length (nat_lit 8)) ∧ h ∧ h ∧ h ∧ h ∧ sumPre d.length [c].length (nat_lit 8) ∧ h ∧ h ∧ h ∧ h ∧ slPre q q l i i ∧ sumPre (d ++ [c]).length t.length (nat_lit 8) ∧ h ∧ h ∧ inR .i64 m ∧ h ∧ (f ∨ ∃ (y : Nat), (y + w ≤ n ∧ n - y < n - v) ∧ (p = p ∧ h ∧ h ∧ h ∧ o = o ∧ h ∧ m = (y : Int) + 1 ∧ h) ∧ bs = bs ∧ g ∧ j ∧ d ++ [c] ++ t = rwK x (y + w) ∧ h))) ∧ (¬c < p → ∃ (y : Unit), h ∧ (p = p ∧ h ∧ h ∧ h ∧ o = o ∧ h ∧ h) ∧ bs = bs ∧ g ∧ j ∧ a = rwK x n ∧ h)) (List.take (bHi q l - bLo i) (List.drop (bLo i) a))) (List.take (bHi q b - bLo i) (List.drop (bLo i) a))) (List.take (bHi q i - bLo b) (List.drop (bLo b) a))) (List.take (bHi q i - bLo l) (List.drop (bLo l) a))) (a.length)) (rwK x (v + w))) (some r)) (∃ (y : Unit), (h ∧ n + w < n - v) ∧ (p = p ∧ h ∧ h ∧ h ∧ o = o ∧ False ∧ m = 0 ∧ h) ∧ bs = bs ∧ g ∧ j ∧ h)) ((modU .u64 (List.getD (bs.getD k []) (v + w) (0 : Int))).tmod m)) (c + 1)) ((v : Int) + 1)) (([] : List Int) :: ([] : List Int) :: ([] : List (List Int)) = [[], []])) (True)) (none)) (ouK bs n k = ouK bs n k)) (some (0 : Int))) ((k : Int))) ((n : Int))) (List.length (bs.getD k []))) ((1 : Nat))) (bs.getD k [])) (by kernel_rfl) ?_
     simp only [zz]
     refine ⟨fun h1 => ⟨hi, fun h2 => ⟨hi, by unfold idxPre; omega, i1, i2, i3, ?_, insO hr (by omega) hn hle h0 eins (hx (by omega)).symm⟩, fun h2 => absurd (hge (by omega)) h0⟩, fun h1 => by rw [show v + 1 = n by omega]⟩
     rw [← hx (by omega)]; simp only [inR]; omega
def oA23 (n : Nat) (bs : List (List Int)) (k : Nat) : St := ⟨(.int .i64 n :: dd 2 ++ .ptr 0 0 [] :: .dead :: .ptr 1 0 [] :: .ptr 2 0 [] :: .int .i64 k :: dd 55), [.bx (.ar SI 2 bs), .bx (.ar SI 2 [[], []]), .bx (.ar SI 2 (ouK bs n k))]⟩
def xa23 (n : Nat) (bs : List (List Int)) : List (List Nat × Ex) := [([0, 5, 6], ⟨0, Unit, fun _ => True, fun _ => ⟨(.int .i64 n :: dd 4 ++ .ptr 0 0 [] :: .ptr 1 0 [] :: dd 56), [.bx (.ar SI 2 [[], []]), .bx (.ar SI 2 (ouK bs n 2))]⟩⟩)]
def ha23 (n : Nat) (bs : List (List Int)) : Hint := ⟨chk 0 [0, 3, 5, 6, 7] (fun k => k ≤ 2) (oA23 n bs), (xa23 n bs).map (·.2)⟩
theorem loop23a (n : Nat) (n1 : 1 ≤ n) (hn : n ≤ 7) (bs : List (List Int)) (hb : bs.length = 2) (R : Exit → St → Prop) : LoopOK (X23 []) L23_0 (ha23 n bs) R := by
 refine loop_ok (Xw_ok _ _) (H := fun k _ => some (hb23 n bs k)) [0, 3, 5, 6, 7] (fun k => k ≤ 2) (oA23 n bs) (fun k => 2 - k) (xa23 n bs) 250 fun (k : Nat) hk => ?_
 have hL := fun h R => loop23b n n1 hn bs hb k h R
 refine of_eq (q := (fun (f : Nat) => (fun (e : List (List Int)) => (fun (d : Int) => (fun (c : Prop) => (fun (b : Int) => (fun (a : Prop) => c ∧ c ∧ (b < 2 → c ∧ c ∧ LoopOK (X23 []) L23_2 (hb23 n bs k) (bodyR (Xw [] (h23 [(13 : Nat), (38 : Nat)])).m0 (xa23 n bs) R) ∧ ((∃ (y : Unit), c ∧ (d = d ∧ c ∧ c ∧ c ∧ b = b ∧ c ∧ (0 : Int) = 0 ∧ c) ∧ bs = bs ∧ a ∧ e = e ∧ c) ∨ ∃ (y : Nat), y + 1 ≤ n ∧ (d = d ∧ c ∧ c ∧ c ∧ b = b ∧ False ∧ (0 : Int) = (y : Int) + 1 ∧ c) ∧ bs = bs ∧ a ∧ e = e ∧ False) ∧ (∀ (y : Unit), c → c ∧ c ∧ idxPre b f ∧ c ∧ c ∧ inR .i64 (b + 1) ∧ c ∧ ∃ (y : Nat), (y ≤ f ∧ f - y < f - k) ∧ (d = d ∧ c ∧ c ∧ c ∧ b + 1 = (y : Int) ∧ c) ∧ bs = bs ∧ a ∧ e.set k (rwK (bs.getD k []) n) = ouK bs n y ∧ c) ∧ c) ∧ (¬b < 2 → ∃ (y : Unit), c ∧ (d = d ∧ c ∧ c ∧ c) ∧ a ∧ e = ouK bs n f ∧ c)) (([] : List Int) :: ([] : List Int) :: ([] : List (List Int)) = [[], []])) ((k : Int))) (True)) ((n : Int))) (ouK bs n k)) ((2 : Nat))) (by kernel_rfl) ?_
 simp only [zz]
 exact ⟨fun h1 => ⟨hL (by omega) _, fun _ _ => ⟨by unfold idxPre; omega, in1 (by omega), k + 1, ⟨by omega, by omega⟩, by omega, rfl⟩⟩, fun h1 => by rw [show k = 2 by omega]⟩
/-- Two lists of all nodes. -/
def lnS (n : Int) (b : List Int × List Int) : List Int × List Int := (rwK b.1 (tmM n 7), rwK b.2 (tmM n 7))
theorem call23 (n : Int) (b : List Int × List Int) (hb : b.1.length < 1000000000000000 ∧ b.2.length < 1000000000000000) : GCall Try.prog gl 23 false [.int .i64 n, .ar SI 2 [b.1, b.2]] [] [.int .i64 (tmM n 7), .ar SI 2 [(lnS n b).1, (lnS n b).2]] [] := by
 refine gcall_of (X := (X23 [])) ((Xw_ok _ _)) (f := 23) (fn := Try.f23) (c := bodyOf Try.f23) (by kernel_rfl) (by kernel_rfl) (view := true) (rvs := [.tmp 4, .cell 5 32]) (by kernel_rfl) (H := (fun _ => some (ha23 (tmM n 7) [b.1, b.2]))) 150 (by kernel_rfl) ?_
 have hL := fun h1 h2 R => loop23a (tmM n 7) h1 h2 [b.1, b.2] rfl R
 refine of_eq (q := (fun (f : List (List Int)) => (fun (e : List (List Int)) => (fun (d : Prop) => (fun (c : Int) => (fun (a : Nat) => d ∧ d ∧ d ∧ d ∧ d ∧ ¬(7 : Int) = 0 ∧ inR .i64 c ∧ inR .i64 ((1 : Int) + c) ∧ d ∧ d ∧ d ∧ LoopOK (X23 []) L23_0 (ha23 a f) (RetR (X23 []) false true [ResultVar.tmp (4 : Tmp), ResultVar.cell (5 : Tmp) (32 : TypeId)] [AV.int .i64 (a : Int), AV.ar SI (2 : Nat) [(lnS n b).fst, (lnS n b).snd]] []) ∧ (∃ (y : Nat), y ≤ 2 ∧ ((1 : Int) + c = (a : Int) ∧ d ∧ d ∧ d ∧ (0 : Int) = (y : Int) ∧ d) ∧ [b.fst, b.snd] = f ∧ e = [[], []] ∧ e = ouK f a y ∧ d) ∧ (∀ (y : Unit), d → d ∧ d ∧ d ∧ d ∧ (d ∧ d) ∧ ((a : Int) = (a : Int) ∧ ouK f a (2 : Nat) = [(lnS n b).fst, (lnS n b).snd] ∧ d) ∧ d) ∧ d) (tmM n (7 : Nat))) ((modU .u64 n).tmod (7 : Int))) (True)) (([] : List Int) :: ([] : List Int) :: ([] : List (List Int)))) ([b.fst, b.snd])) (by kernel_rfl) ?_
 simp only [zz]
 obtain ⟨m1, m7⟩ := tmM_bd (n := n) (most := 7) (by omega)
 have hb7 := tmc_bd (m := 7) (by omega) n
 have e : 1 + (modU .u64 n).tmod 7 = ((tmM n 7 : Nat) : Int) := by
   show 1 + tmc 7 n = _
   unfold tmM; omega
 have r := tm_rg (m := 7) (by omega) (by omega) n
 refine ⟨by decide, r, by rw [e]; simp only [inR]; omega, hL m1 m7 _, ⟨0, by omega, ⟨e, rfl⟩, rfl⟩, fun _ _ => ?_⟩
 rfl
def e23 : Entry Try.prog gl := entry2 23 ⟨Try.f23, by kernel_rfl, by kernel_rfl, by kernel_rfl⟩ I64 (.a2 SI) (fun _ b => (b : List Int × List Int).1.length < 1000000000000000 ∧ b.2.length < 1000000000000000) false (fun (n : Int) b => [.int .i64 (tmM n 7), .ar SI 2 [(lnS n b).1, (lnS n b).2]]) (fun _ _ => []) (fun n b h => call23 n b h)
theorem pl_of_nodup {n : Nat} {l : List Int} (h1 : l.Nodup) (h2 : ∀ x, x ∈ l → 0 ≤ x ∧ x < n) (h3 : l.length = n) : plB n l = true := by
 refine decide_eq_true ⟨by omega, fun j hj => ⟨h2 _ (mem_getD hj), fun hm => ?_⟩⟩
 obtain ⟨i, hi, e⟩ := List.mem_take_iff_getElem.mp hm
 rw [getD_lt hj] at e
 exact List.pairwise_iff_getElem.mp h1 i j (by omega) hj (by omega) e
theorem plO_get {n : Nat} {l : List Int} : ∀ {i : Nat}, i ≤ l.length → plK n l i → ∀ j, j < i → (plO n l i).getD (l.getD j 0).toNat 0 = j
 | 0, _, _, j, hj => absurd hj (Nat.not_lt_zero _)
 | i + 1, hi, h, j, hj => by
   have hk := h i (by omega)
   rw [plO, getD_set (by rw [plO_len]; omega)]
   by_cases e : j = i
   · rw [if_pos (by rw [e]), e]
   · have hkj := (h j hj).1
     rw [if_neg, plO_get (by omega) (fun m hm => h m (by omega)) j (by omega)]
     intro e1
     have e2 : l.getD j 0 = l.getD i 0 := by omega
     refine hk.2 ?_
     rw [← e2, getD_lt (show j < l.length by omega)]
     exact List.mem_take_iff_getElem.mpr ⟨j, by omega, rfl⟩
theorem pl_nodup {n : Nat} {l : List Int} (h : plB n l = true) : l.Nodup ∧ l.length = n ∧ ∀ x, x ∈ l → 0 ≤ x ∧ x < n := by
 obtain ⟨h1, h2⟩ := of_decide_eq_true h
 refine ⟨?_, by omega, fun x hx => ?_⟩
 · rw [List.Nodup, List.pairwise_iff_getElem]
   intro i j hi hj hij e
   refine (h2 j hj).2 ?_
   rw [getD_lt hj, ← e]
   exact List.mem_take_iff_getElem.mpr ⟨i, by omega, rfl⟩
 · obtain ⟨i, hi, e⟩ := List.getElem_of_mem hx
   have := (h2 i hi).1
   rw [getD_lt hi, e] at this
   exact this
/-- Each node is somewhere. -/
theorem pl_at {n : Nat} {l : List Int} (h : plB n l = true) {a : Nat} (ha : a < n) : ∃ i : Nat, i < n ∧ l.getD i 0 = a ∧ (plR n l).getD a 0 = i := by
 obtain ⟨h1, h2, h3⟩ := pl_nodup h
 have hm : (a : Int) ∈ l := Classical.byContradiction fun hm => by
   have := nodup_len n ((a : Nat) :: l.map Int.toNat) (by
     rw [List.nodup_cons]
     refine ⟨fun hx => ?_, ?_⟩
     · obtain ⟨x, hx, e⟩ := List.mem_map.mp hx
       have := h3 x hx
       exact hm (by rw [show (a : Int) = x by omega]; exact hx)
     · rw [List.Nodup, List.pairwise_map]
       exact List.Pairwise.imp_of_mem (fun {x y} hx hy hne e => hne (by have := h3 x hx; have := h3 y hy; omega)) h1) (fun x hx => by
     rcases List.mem_cons.mp hx with rfl | hx
     · exact ha
     · obtain ⟨y, hy, e⟩ := List.mem_map.mp hx
       have := h3 y hy
       omega)
   rw [List.length_cons, List.length_map] at this
   omega
 obtain ⟨i, hi, e⟩ := List.getElem_of_mem hm
 refine ⟨i, by omega, by rw [getD_lt hi, e], ?_⟩
 unfold plR
 rw [if_pos h, Int.toNat_natCast]
 have := plO_get (n := n) (l := l) (Nat.le_refl _) (of_decide_eq_true h).2 i hi
 rw [getD_lt hi, e, Int.toNat_natCast] at this
 exact this
theorem pl_ne {n : Nat} {l : List Int} (h : plB n l = true) {a b : Nat} (ha : a < n) (hb : b < n) (hab : a ≠ b) : (plR n l).getD a 0 ≠ (plR n l).getD b 0 := by
 obtain ⟨i, _, h1, h2⟩ := pl_at h ha
 obtain ⟨j, _, h3, h4⟩ := pl_at h hb
 intro e
 have : i = j := by omega
 subst this
 omega
/-- What two lines have in common. -/
structure cmF (n : Nat) (r : RF) : Prop where
 lt : ∀ x y, r x y = true → x < n ∧ y < n
 tr : trB r = true
theorem cm_iff {n : Nat} {p q : List Int} (h : cmB n p q = true) {a b : Nat} : cmR n p q a b = true ↔ (a < n ∧ b < n) ∧ (plR n p).getD a 0 < (plR n p).getD b 0 ∧ (plR n q).getD a 0 < (plR n q).getD b 0 := by
 unfold cmR
 rw [if_pos h]
 unfold inn bo lo
 simp only [Int.toNat_natCast, Bool.and_eq_true, decide_eq_true_eq]
def b2 (P : RF) (x y : Nat) : Nat := if P x y = true then 1 else 0
def cK (P : RF) : Nat → Nat
 | 0 => 0
 | q + 1 => cK P q + b2 P (q / 7) (q % 7)
theorem cK_len (P : RF) : ∀ q, (prK P 7 q).length = cK P q
 | 0 => rfl
 | q + 1 => by
   rw [prK, cK, ← cK_len P q]
   unfold b2
   split
   · rw [List.length_append]; try rfl
   · rfl
theorem cK_add {P Q R : RF} (h : ∀ x y, x < 7 → y < 7 → b2 P x y = b2 Q x y + b2 R x y) : ∀ q, q ≤ 49 → cK P q = cK Q q + cK R q
 | 0, _ => rfl
 | q + 1, hq => by
   rw [cK, cK, cK, cK_add h q (by omega), h (q / 7) (q % 7) (by omega) (Nat.mod_lt _ (by decide))]
   omega
theorem cK_sw (P : RF) : cK P 49 = cK (sw P) 49 := by
 have e : ∀ x y, b2 (sw P) x y = b2 P y x := fun _ _ => rfl
 simp only [cK, e, Nat.reduceDiv, Nat.reduceMod]
 omega
theorem cK_all (n : Nat) (hn : n ≤ 7) : cK (fun x y => decide (x < y) && decide (y < n)) 49 = n * (n - 1) / 2 := by
 rcases show n = 0 ∨ n = 1 ∨ n = 2 ∨ n = 3 ∨ n = 4 ∨ n = 5 ∨ n = 6 ∨ n = 7 by omega with rfl | rfl | rfl | rfl | rfl | rfl | rfl | rfl <;> decide +kernel
theorem pairs {n : Nat} (hn : n ≤ 7) {r : RF} (h : cmF n r) : (L46 n (otR n (both r))).length + (prK r 7 49).length = n * (n - 1) / 2 := by
 have hlt := h.lt
 have ha : ∀ x y, x < 7 → y < 7 → r x y = true → r y x = true → False := fun x y hx hy h1 h2 => by
   have := (of_decide_eq_true h.tr x hx y hy h1).1
   rw [h2] at this; cases this
 have hir : ∀ x, x < 7 → r x x = false := fun x hx => trB_irr h.tr hx
 rw [L46, cK_len, cK_len, ← cK_all n hn]
 have e1 : cK r 49 = cK (fun x y => decide (x < y) && r x y) 49 + cK (sw fun x y => decide (x < y) && r y x) 49 := cK_add (fun x y hx hy => by
   unfold b2 sw
   rcases Nat.lt_trichotomy x y with h1 | h1 | h1
   · have h2 : ¬ y < x := by omega
     simp [h1, h2]
   · subst h1; simp [hir x hx]
   · have h2 : ¬ x < y := by omega
     simp [h1, h2]) 49 (Nat.le_refl _)
 rw [e1, ← cK_sw]
 have e2 : cK (fun x y => decide (x < y) && decide (y < n)) 49 = cK (P46 n (otR n (both r))) 49 + cK (fun x y => decide (x < y) && jo r (sw r) x y) 49 := cK_add (fun x y hx hy => by
   unfold b2 P46 otR both jo sw
   cases h1 : r x y with
   | true => have := hlt x y h1; by_cases h2 : x < y <;> simp [h2, this.2, h1]
   | false =>
     cases h2 : r y x with
     | true => have := hlt y x h2; by_cases h3 : x < y <;> simp [h3, this.1, h1, h2]
     | false =>
       by_cases h3 : x < y
       · by_cases h4 : y < n
         · have : x < n := by omega
           have h5 : ¬ x = y := by omega
           simp [h3, h4, this, h5, h1, h2]
         · simp [h3, h4, h1, h2]
       · simp [h3]) 49 (Nat.le_refl _)
 have e3 : cK (fun x y => decide (x < y) && jo r (sw r) x y) 49 = cK (fun x y => decide (x < y) && r x y) 49 + cK (fun x y => decide (x < y) && r y x) 49 := cK_add (fun x y hx hy => by
   unfold b2 jo sw
   cases h1 : r x y with
   | true =>
     cases h2 : r y x with
     | true => exact (ha x y hx hy h1 h2).elim
     | false => by_cases h3 : x < y <;> simp [h3, h1, h2]
   | false =>
     cases h2 : r y x with
     | true => by_cases h3 : x < y <;> simp [h3, h1, h2]
     | false => by_cases h3 : x < y <;> simp [h3, h1, h2]) 49 (Nat.le_refl _)
 omega
end Go.Am.Or

/- Orders: the law of Pnueli. -/
namespace Go.Am.Or
open Go Go.Am Go.Proofs
/-- What is known of the graph and of the lines. -/
structure F7 (m : Nat) (e : LP) : Prop where
 m1 : 1 ≤ m
 m7 : m ≤ 7
 ge : grOk m e
 go : grOk m (L46 m (otR m (eg e)))
 tk : (orR m (eg e)).2 = true → orOk m (orL m e)
 too : (orR m (eg (L46 m (otR m (eg e))))).2 = (orR m (otR m (eg e))).2
 rl : (orR m (eg e)).2 = true → rzB m (orL m e) = (orR m (otR m (eg e))).2
structure F7b (k : Nat) (l : List Int × List Int) : Prop where
 k1 : 1 ≤ k
 k7 : k ≤ 7
 o : ok60 k l
 e0 : cmE k l.1 l.2 = 0
 dl : (dnL k l).length ≤ 49
 cl : (cnL k l).length ≤ 49
 sum : ((dnL k l).length : Int) + (cnL k l).length = Int.tdiv ((k : Int) * ((k : Int) - 1)) 2
 no : ∀ i, i < (cnL k l).length → hasB (dnL k l) (minI ((cnL k l).getD i (0, 0)).1 ((cnL k l).getD i (0, 0)).2, maxI ((cnL k l).getD i (0, 0)).1 ((cnL k l).getD i (0, 0)).2) = false
 ok : orOk k (cnL k l)
def st7 (k : Nat) (d c : LP) (i : Nat) : St := ⟨(dd 23 ++ .int .i64 k :: .dead :: .sl P2 d :: .dead :: .sl P2 c :: .dead :: .int .i64 i :: dd 138), []⟩
def ex7 (k : Nat) (d c : LP) : List (List Nat × Ex) := [([23, 27], ⟨0, Unit, fun _ => True, fun _ => ⟨(dd 23 ++ .int .i64 k :: dd 3 ++ .sl P2 c :: dd 140), []⟩⟩)]
def h7 (k : Nat) (d c : LP) : Hint := ⟨chk 0 [23, 25, 27, 29] (fun i => i ≤ c.length) (st7 k d c), (ex7 k d c).map (·.2)⟩
end Go.Am.Or

/- Orders, plain: Golumbic's theorem: the classes of arrows, and graphs without a clash. -/
namespace Go.Am.Or
open Go Go.Am Go.Proofs
/-- What an arrow forces, step by step. -/
inductive Rc (f : RF) (a b : Nat) : Nat → Nat → Prop
 | refl : Rc f a b a b
 | hd {c d e : Nat} : Rc f a b c d → f c e = true → f d e = false → Rc f a b c e
 | tl {c d e : Nat} : Rc f a b c d → f e d = true → f c e = false → Rc f a b e d
theorem Rc.trans {f : RF} {a b c d e g : Nat} (h1 : Rc f a b c d) (h2 : Rc f c d e g) : Rc f a b e g := by
 induction h2 with
 | refl => exact h1
 | hd _ h3 h4 ih => exact .hd ih h3 h4
 | tl _ h3 h4 ih => exact .tl ih h3 h4
/-- A symmetric relation without loops. -/
structure sg (f : RF) : Prop where
 sy : ∀ x y, f x y = f y x
 ir : ∀ x, f x x = false
theorem Rc.ar {f : RF} {a b c d : Nat} (hab : f a b = true) (h : Rc f a b c d) : f c d = true := by
 cases h with
 | refl => exact hab
 | hd _ h _ => exact h
 | tl _ h _ => exact h
theorem Rc.symm {f : RF} (hf : sg f) {a b c d : Nat} (hab : f a b = true) (h : Rc f a b c d) : Rc f c d a b := by
 induction h with
 | refl => exact .refl
 | @hd c d e h1 h2 h3 ih =>
   have : Rc f c e c d := .hd .refl (h1.ar hab) (by rw [hf.sy]; exact h3)
   exact this.trans ih
 | @tl c d e h1 h2 h3 ih =>
   have : Rc f e d c d := .tl .refl (h1.ar hab) (by rw [hf.sy]; exact h3)
   exact this.trans ih
theorem Rc.inv {f : RF} (hf : sg f) {a b c d : Nat} (h : Rc f a b c d) : Rc f b a d c := by
 induction h with
 | refl => exact .refl
 | hd _ h2 h3 ih => exact .tl ih (by rw [hf.sy]; exact h2) h3
 | tl _ h2 h3 ih => exact .hd ih (by rw [hf.sy]; exact h2) h3
def noCl (f : RF) : Prop := ∀ a b, f a b = true → ¬ Rc f a b b a
/-- The triangle lemma. -/
theorem tri {f : RF} (hf : sg f) {a b c : Nat} (hab : f a b = true) (hac : f a c = true) (hbc : f b c = true) (h1 : ¬ Rc f b c a c) (h2 : ¬ Rc f b c b a) {b' c' : Nat} (h : Rc f b c b' c') : Rc f a b a b' ∧ Rc f a c a c' := by
 induction h with
 | refl => exact ⟨.refl, .refl⟩
 | @hd p q e g1 g2 g3 ih =>
   refine ⟨ih.1, .hd ih.2 ?_ g3⟩
   cases hq : f a e with
   | true => rfl
   | false =>
     have hap : f a p = true := ih.1.ar hab
     have : Rc f p e p a := .hd .refl (by rw [hf.sy]; exact hap) (by rw [hf.sy]; exact hq)
     have h3 : Rc f b c p e := .hd g1 g2 g3
     exact absurd ((h3.trans this).trans ((ih.1.inv hf).symm hf (by rw [hf.sy]; exact hab))) h2
 | @tl p q e g1 g2 g3 ih =>
   refine ⟨.hd ih.1 ?_ g3, ih.2⟩
   cases hq : f a e with
   | true => rfl
   | false =>
     have haq : f a q = true := ih.2.ar hac
     have : Rc f e q a q := .tl .refl haq (by rw [hf.sy]; exact hq)
     have h3 : Rc f b c e q := .tl g1 g2 g3
     exact absurd ((h3.trans this).trans (ih.2.symm hf hac)) h1
/-- No arrow of the class touches the third corner. -/
theorem tri_no {f : RF} (hf : sg f) {a b c : Nat} (hab : f a b = true) (hac : f a c = true) (hbc : f b c = true) (h1 : ¬ Rc f b c a c) (h2 : ¬ Rc f b c b a) {b' c' : Nat} (h : Rc f b c b' c') : b' ≠ a ∧ c' ≠ a := by
 obtain ⟨g1, g2⟩ := tri hf hab hac hbc h1 h2 h
 refine ⟨fun e => ?_, fun e => ?_⟩
 · have := g1.ar hab
   rw [e, hf.ir] at this; cases this
 · have := g2.ar hac
   rw [e, hf.ir] at this; cases this
/-- Without a clash each class is transitive. -/
theorem cl_tr {f : RF} (hf : sg f) (hn : noCl f) {a b c : Nat} (hab : f a b = true) (h : Rc f a b b c) : Rc f a b a c := by
 have hbc := h.ar hab
 have hac : f a c = true := by
   cases hq : f a c with
   | true => rfl
   | false =>
     have : Rc f a b c b := .tl .refl (by rw [hf.sy]; exact hbc) hq
     have h3 := h.symm hf hab
     exact absurd (h3.trans this) (hn b c hbc)
 by_cases h1 : Rc f b c a c
 · exact h.trans h1
 · by_cases h2 : Rc f b c b a
   · exact absurd (h.trans h2) (hn a b hab)
   · exact absurd rfl (tri_no hf hab hac hbc h1 h2 (h.symm hf hab)).1
/-- The class of an arrow, taken away. -/
structure cut (f g : RF) (u v : Nat) : Prop where
 e : ∀ x y, g x y = true ↔ f x y = true ∧ ¬ Rc f u v x y ∧ ¬ Rc f u v y x
section
variable {f g : RF} {u v : Nat}
theorem cut.sg (h : cut f g u v) (hf : Or.sg f) : Or.sg g := by
 refine ⟨fun x y => ?_, fun x => ?_⟩
 · rw [Bool.eq_iff_iff, h.e, h.e, hf.sy x y]
   exact ⟨fun ⟨h1, h2, h3⟩ => ⟨h1, h3, h2⟩, fun ⟨h1, h2, h3⟩ => ⟨h1, h3, h2⟩⟩
 · cases hx : g x x with
   | false => rfl
   | true => have := ((h.e x x).mp hx).1; rw [hf.ir] at this; cases this
/-- An arrow beside the class of (u, v). -/
structure nA (f : RF) (u v p q : Nat) : Prop where
 ar : f p q = true
 n1 : ¬ Rc f u v p q
 n2 : ¬ Rc f u v q p
theorem nA.of (hf : Or.sg f) {p q x y : Nat} (h : nA f u v p q) (h1 : Rc f p q x y) : nA f u v x y :=
 ⟨h1.ar h.ar, fun h2 => h.n1 (h2.trans (h1.symm hf h.ar)), fun h2 => h.n2 (h2.trans ((h1.symm hf h.ar).inv hf))⟩
theorem nA.inv (hf : Or.sg f) {p q : Nat} (h : nA f u v p q) : nA f u v q p := ⟨by rw [hf.sy]; exact h.ar, h.n2, h.n1⟩
/-- All arrows of the class stand before the apex alike. -/
theorem apex (hf : Or.sg f) (huv : f u v = true) {a b c b' c' : Nat} (hbc : Rc f u v b c) (hab : nA f u v a b) (hac : nA f u v a c) (h : Rc f u v b' c') : Rc f a b a b' ∧ Rc f a c a c' :=
 tri hf hab.ar hac.ar (hbc.ar huv) (fun h1 => hac.n1 (hbc.trans h1)) (fun h1 => hab.n2 (hbc.trans h1)) ((hbc.symm hf huv).trans h)
theorem apex_no (hf : Or.sg f) (huv : f u v = true) {a b c b' c' : Nat} (hbc : Rc f u v b c) (hab : nA f u v a b) (hac : nA f u v a c) (h : Rc f u v b' c') : b' ≠ a ∧ c' ≠ a :=
 tri_no hf hab.ar hac.ar (hbc.ar huv) (fun h1 => hac.n1 (hbc.trans h1)) (fun h1 => hab.n2 (hbc.trans h1)) ((hbc.symm hf huv).trans h)
/-- What all arrows of the one class have in common. -/
theorem side (hf : Or.sg f) (huv : f u v = true) {a b c x y : Nat} (hbc : Rc f u v b c) (hab : nA f u v a b) (hac : nA f u v a c) (hne : ¬ Rc f a b a c) (h : Rc f a b x y) : Rc f a c x c ∧ Rc f u v y c := by
 have hfbc := hbc.ar huv
 have := tri hf (a := c) (b := a) (c := b) (by rw [hf.sy]; exact hac.ar) (by rw [hf.sy]; exact hfbc) hab.ar (fun h1 => hab.n2 (hbc.trans ((h1.symm hf hab.ar).inv hf))) hne h
 exact ⟨this.1.inv hf, hbc.trans (this.2.inv hf)⟩
/-- Two classes are joined, the class of (u, v) being away. -/
def Lk (f : RF) (u v p q r s : Nat) : Prop := ∃ a b c, (Rc f u v b c ∨ Rc f u v c b) ∧ ((Rc f p q a b ∧ Rc f r s a c) ∨ (Rc f p q b a ∧ Rc f r s c a))
theorem uniq1 (hf : Or.sg f) (hn : noCl f) (huv : f u v = true) {p q r s r' s' a b c : Nat} (hbc : Rc f u v b c) (hpq : nA f u v p q) (hrs : nA f u v r s) (hrs' : nA f u v r' s') (hne : ¬ Rc f p q r s)
   (hab : Rc f p q a b) (hac : Rc f r s a c) (h : Lk f u v p q r' s') : Rc f r s r' s' := by
 have nab := hpq.of hf hab
 have nac := hrs.of hf hac
 have hne' : ¬ Rc f a b a c := fun h1 => hne ((hab.trans h1).trans (hac.symm hf hrs.ar))
 have hcc : ∀ x, ¬ f x x = true := fun x h => by rw [hf.ir] at h; cases h
 obtain ⟨a', b1, c1, hA, hL⟩ := h
 rcases hL with ⟨h1, h2⟩ | ⟨h1, h2⟩
 · have n1 := hpq.of hf h1
   have n2 := hrs'.of hf h2
   rcases hA with hA | hA
   · obtain ⟨g1, g2⟩ := apex hf huv hA n1 n2 hbc
     have : Rc f a b a' b := (hab.symm hf hpq.ar).trans (h1.trans g1)
     have h3 := (side hf huv hbc nab nac hne' this).1
     exact (hac.trans h3).trans ((h2.trans g2).symm hf hrs'.ar)
   · obtain ⟨g1, g2⟩ := apex hf huv hA n2 n1 hbc
     have : Rc f a b a' c := (hab.symm hf hpq.ar).trans (h1.trans g2)
     have h3 := (side hf huv hbc nab nac hne' this).2
     exact absurd (h3.ar huv) (hcc c)
 · have n1 := (hpq.of hf h1).inv hf
   have n2 := (hrs'.of hf h2).inv hf
   rcases hA with hA | hA
   · obtain ⟨g1, g2⟩ := apex hf huv hA n1 n2 hbc
     have h3 : Rc f a b b a' := (hab.symm hf hpq.ar).trans (h1.trans (g1.inv hf))
     have h4 := cl_tr hf hn nab.ar h3
     have h5 := (side hf huv hbc nab nac hne' h4).2
     exact absurd rfl (apex_no hf huv hA n1 n2 h5).1
   · obtain ⟨g1, g2⟩ := apex hf huv hA n2 n1 hbc
     have h3 : Rc f a b c a' := (hab.symm hf hpq.ar).trans (h1.trans (g2.inv hf))
     have h4 := (side hf huv hbc nab nac hne' h3).1
     exact absurd (h4.ar nac.ar) (hcc c)
theorem Lk.inv (hf : Or.sg f) {p q r s : Nat} (h : Lk f u v p q r s) : Lk f u v q p s r := by
 obtain ⟨a, b, c, h1, h2⟩ := h
 refine ⟨a, b, c, h1, ?_⟩
 rcases h2 with ⟨h2, h3⟩ | ⟨h2, h3⟩
 · exact .inr ⟨h2.inv hf, h3.inv hf⟩
 · exact .inl ⟨h2.inv hf, h3.inv hf⟩
theorem Lk.flip (hf : Or.sg f) {p q r s : Nat} (h : Lk f u v p q r s) : Lk f v u p q r s := by
 obtain ⟨a, b, c, h1, h2⟩ := h
 exact ⟨a, b, c, h1.symm.imp (fun h => h.inv hf) fun h => h.inv hf, h2⟩
theorem Lk.symm {p q r s : Nat} (h : Lk f u v p q r s) : Lk f u v r s p q := by
 obtain ⟨a, b, c, h1, h2⟩ := h
 exact ⟨a, c, b, h1.symm, h2.imp (fun h => ⟨h.2, h.1⟩) fun h => ⟨h.2, h.1⟩⟩
theorem nA.flip (hf : Or.sg f) {p q : Nat} (h : nA f u v p q) : nA f v u p q := ⟨h.ar, fun h1 => h.n2 (h1.inv hf), fun h1 => h.n1 (h1.inv hf)⟩
theorem uniq2 (hf : Or.sg f) (hn : noCl f) (huv : f u v = true) {p q r s r' s' a b c : Nat} (hbc : Rc f u v b c ∨ Rc f u v c b) (hpq : nA f u v p q) (hrs : nA f u v r s) (hrs' : nA f u v r' s') (hne : ¬ Rc f p q r s)
   (hab : Rc f p q a b) (hac : Rc f r s a c) (h : Lk f u v p q r' s') : Rc f r s r' s' := by
 rcases hbc with hbc | hbc
 · exact uniq1 hf hn huv hbc hpq hrs hrs' hne hab hac h
 · exact uniq1 hf hn (u := v) (v := u) (by rw [hf.sy]; exact huv) (hbc.inv hf) (hpq.flip hf) (hrs.flip hf) (hrs'.flip hf) hne hab hac (h.flip hf)
theorem uniq (hf : Or.sg f) (hn : noCl f) (huv : f u v = true) {p q r s r' s' : Nat} (hpq : nA f u v p q) (hrs : nA f u v r s) (hrs' : nA f u v r' s') (hne : ¬ Rc f p q r s)
   (h1 : Lk f u v p q r s) (h : Lk f u v p q r' s') : Rc f r s r' s' := by
 obtain ⟨a, b, c, hbc, hL⟩ := h1
 rcases hL with ⟨hab, hac⟩ | ⟨hab, hac⟩
 · exact uniq2 hf hn huv hbc hpq hrs hrs' hne hab hac h
 · have := uniq2 hf hn huv hbc (hpq.inv hf) (hrs.inv hf) (hrs'.inv hf) (fun h => hne (h.inv hf)) (hab.inv hf) (hac.inv hf) (h.inv hf)
   exact this.inv hf
theorem Lk.left (hf : Or.sg f) {p q r s x y : Nat} (hpq : f p q = true) (hc : Rc f p q x y) (h : Lk f u v p q r s) : Lk f u v x y r s := by
 obtain ⟨a, b, c, h1, h2⟩ := h
 have hs := hc.symm hf hpq
 exact ⟨a, b, c, h1, h2.imp (fun h => ⟨hs.trans h.1, h.2⟩) fun h => ⟨hs.trans h.1, h.2⟩⟩
/-- No class is joined with its own inverse. -/
theorem Lk.no (hf : Or.sg f) (hn : noCl f) {p q : Nat} (hpq : nA f u v p q) (h : Lk f u v p q q p) : False := by
 have key : ∀ p q, nA f u v p q → (∃ a b c, (Rc f u v b c ∨ Rc f u v c b) ∧ (Rc f p q a b ∧ Rc f q p a c)) → False := fun p q hpq ⟨a, b, c, h1, h2, h3⟩ => by
   have h4 : Rc f c a a b := ((h3.symm hf (hpq.inv hf).ar).inv hf).trans h2
   have hca : f c a = true := (h3.inv hf).ar hpq.ar
   have h5 := cl_tr hf hn hca h4
   have h6 : Rc f p q c b := (h3.inv hf).trans h5
   have := hpq.of hf h6
   rcases h1 with h1 | h1
   · exact this.n2 h1
   · exact this.n1 h1
 obtain ⟨a, b, c, h1, h2 | h2⟩ := h
 · exact key p q hpq ⟨a, b, c, h1, h2⟩
 · exact key q p (hpq.inv hf) ⟨a, b, c, h1, h2.1.inv hf, h2.2.inv hf⟩
theorem cut.na (h : cut f g u v) {p q : Nat} (hp : g p q = true) : nA f u v p q := by
 obtain ⟨h1, h2, h3⟩ := (h.e p q).mp hp
 exact ⟨h1, h2, h3⟩
/-- Where a class is taken away, no clash comes. -/
theorem noCl_cut (hf : Or.sg f) (hn : noCl f) (huv : f u v = true) (hc : cut f g u v) : noCl g := by
 have hg := hc.sg hf
 have key : ∀ p q r s, g p q = true → Rc g p q r s → Rc f p q r s ∨ (¬ Rc f p q r s ∧ Lk f u v p q r s) := by
   intro p q r s hpq h
   have npq := hc.na hpq
   have step : ∀ r s r' s', nA f u v r s → nA f u v r' s' → (Rc f p q r s ∨ (¬ Rc f p q r s ∧ Lk f u v p q r s)) → (Rc f r s r' s' ∨ Lk f u v r s r' s') → (Rc f p q r' s' ∨ (¬ Rc f p q r' s' ∧ Lk f u v p q r' s')) := by
     intro r s r' s' h1 h2 h3 h4
     by_cases h5 : Rc f p q r' s'
     · exact .inl h5
     · refine .inr ⟨h5, ?_⟩
       rcases h3 with h3 | ⟨h3, h6⟩
       · rcases h4 with h4 | h4
         · exact absurd (h3.trans h4) h5
         · exact h4.left hf h1.ar (h3.symm hf npq.ar)
       · rcases h4 with h4 | h4
         · exact ((h6.symm).left hf h1.ar h4).symm
         · exact absurd (uniq hf hn huv h1 npq h2 (fun h => h3 (h.symm hf h1.ar)) h6.symm h4) h5
   induction h with
   | refl => exact .inl .refl
   | @hd c d e h1 h2 h3 ih =>
     have n1 := hc.na (h1.ar hpq)
     have n2 := hc.na h2
     refine step c d c e n1 n2 ih ?_
     cases hq : f d e with
     | false => exact .inl (.hd .refl n2.ar hq)
     | true =>
       refine .inr ⟨c, d, e, ?_, .inl ⟨.refl, .refl⟩⟩
       refine Classical.byContradiction fun h4 => ?_
       have : g d e = true := (hc.e d e).mpr ⟨hq, fun h => h4 (.inl h), fun h => h4 (.inr h)⟩
       rw [this] at h3; cases h3
   | @tl c d e h1 h2 h3 ih =>
     have n1 := hc.na (h1.ar hpq)
     have n2 := hc.na h2
     refine step c d e d n1 n2 ih ?_
     cases hq : f c e with
     | false => exact .inl (.tl .refl n2.ar hq)
     | true =>
       refine .inr ⟨d, c, e, ?_, .inr ⟨.refl, .refl⟩⟩
       refine Classical.byContradiction fun h4 => ?_
       have : g c e = true := (hc.e c e).mpr ⟨hq, fun h => h4 (.inl h), fun h => h4 (.inr h)⟩
       rw [this] at h3; cases h3
 intro p q hpq h
 have npq := hc.na hpq
 rcases key p q q p hpq h with h | ⟨_, h⟩
 · exact hn p q npq.ar h
 · exact h.no hf hn npq
end
end Go.Am.Or

/- Orders: what is reached, and when an order is found. -/
namespace Go.Am.Or
open Go Go.Am Go.Proofs
theorem gr.sg {n : Nat} {f : RF} (h : gr n f) : Or.sg f := ⟨h.sy, h.ir⟩
theorem fcl_self {f : RF} {a b : Nat} : ∀ {k : Nat}, ((a : Int), (b : Int)) ∈ fcl f a b k
 | 0 => by simp [fcl]
 | k + 1 => by rw [fcl]; exact List.mem_append_left _ (List.mem_append_left _ fcl_self)
theorem fcl_m1 {f : RF} {a b c : Nat} (h1 : f a c = true) (h2 : f b c = false) : ∀ {k : Nat}, c < k → ((a : Int), (c : Int)) ∈ fcl f a b k
 | 0, h => absurd h (Nat.not_lt_zero _)
 | k + 1, h => by
   by_cases hcb : c = b
   · rw [hcb]; exact fcl_self
   · rw [fcl]
     by_cases e : c = k
     · subst e
       refine List.mem_append_left _ (List.mem_append_right _ ?_)
       unfold fc1
       rw [if_pos ⟨hcb, h1, h2⟩]; simp
     · exact List.mem_append_left _ (List.mem_append_left _ (fcl_m1 h1 h2 (by omega)))
theorem fcl_m2 {f : RF} {a b c : Nat} (h1 : f c b = true) (h2 : f a c = false) : ∀ {k : Nat}, c < k → ((c : Int), (b : Int)) ∈ fcl f a b k
 | 0, h => absurd h (Nat.not_lt_zero _)
 | k + 1, h => by
   by_cases hcb : c = a
   · rw [hcb]; exact fcl_self
   · rw [fcl]
     by_cases e : c = k
     · subst e
       refine List.mem_append_right _ ?_
       unfold fc2
       rw [if_pos ⟨hcb, h1, h2⟩]; simp
     · exact List.mem_append_left _ (List.mem_append_left _ (fcl_m2 h1 h2 (by omega)))
def rcy (f : RF) (a b : Nat) (y : PA) : Prop := ∃ c d : Nat, y = ((c : Int), (d : Int)) ∧ Rc f a b c d
theorem fcl_rc {f : RF} {a b p q : Nat} (h : Rc f p q a b) : ∀ {k : Nat} {y : PA}, y ∈ fcl f a b k → rcy f p q y
 | 0, y, hy => by rw [fcl, List.mem_singleton] at hy; exact ⟨a, b, hy, h⟩
 | k + 1, y, hy => by
   rw [fcl, List.mem_append, List.mem_append] at hy
   rcases hy with (hy | hy) | hy
   · exact fcl_rc h hy
   · unfold fc1 at hy
     split at hy
     · rename_i hc; exact ⟨a, k, List.mem_singleton.mp hy, .hd h hc.2.1 hc.2.2⟩
     · cases hy
   · unfold fc2 at hy
     split at hy
     · rename_i hc; exact ⟨k, b, List.mem_singleton.mp hy, .tl h hc.2.1 hc.2.2⟩
     · cases hy
theorem fold_rc {f : RF} {i p q : Nat} : ∀ {l : LP} {s : MA × LP}, (∀ y, y ∈ s.2 → rcy f p q y) → (∀ y, y ∈ l → rcy f p q y) → ∀ y, y ∈ (l.foldl (stp i) s).2 → rcy f p q y
 | [], _, h, _ => h
 | y :: l, s, h, hl => fold_rc (l := l) (s := stp i s y) (by
   unfold stp
   split
   · exact h
   · intro z hz
     rcases List.mem_append.mp hz with h1 | h1
     · exact h z h1
     · rw [List.mem_singleton.mp h1]; exact hl y (by simp)) fun z hz => hl z (by simp [hz])
theorem rst_rc {f : RF} {n p q : Nat} {s : MA × LP} (h : ∀ y, y ∈ s.2 → rcy f p q y) : ∀ k, ∀ y, y ∈ (rst f n s k).2 → rcy f p q y
 | 0 => h
 | k + 1 => by
   have ih := rst_rc (n := n) h k
   rw [rst]
   split
   · rename_i hk
     obtain ⟨c, d, h1, h2⟩ := ih _ (mem_getD (d := (0, 0)) hk)
     refine fold_rc ih fun y hy => ?_
     rw [h1] at hy
     exact fcl_rc h2 hy
   · exact ih
theorem fold_get {i j : Nat} : ∀ {l : LP} {s : MA × LP}, j < s.2.length → (l.foldl (stp i) s).2.getD j (0, 0) = s.2.getD j (0, 0)
 | [], _, _ => rfl
 | y :: l, s, h => by
   show ((l.foldl (stp i) (stp i s y))).2.getD j (0, 0) = _
   have h1 := stp_len i s y
   rw [fold_get (l := l) (by omega)]
   unfold stp
   split
   · rfl
   · exact getD_app h
theorem stp_mem {n i : Nat} {s : MA × LP} {y : PA} (h : okQ n s) : y ∈ (stp i s y).2 := by
 unfold stp
 split
 · rename_i hm; exact (h.dom y).mp hm
 · exact List.mem_append_right _ (by simp)
theorem fold_all {n i : Nat} {y : PA} : ∀ {l : LP} {s : MA × LP}, okQ n s → (∀ y, y ∈ l → (0 ≤ y.1 ∧ y.1 < n) ∧ (0 ≤ y.2 ∧ y.2 < n)) → y ∈ l → y ∈ (l.foldl (stp i) s).2
 | [], _, _, _, h => by cases h
 | z :: l, s, ho, hl, h => by
   show y ∈ (l.foldl (stp i) (stp i s z)).2
   have ho2 := stp_ok (i := i) ho (hl z (by simp))
   have hl2 := fun w (hw : w ∈ l) => hl w (by simp [hw])
   rcases List.mem_cons.mp h with rfl | h
   · exact fold_sub (stp_mem ho)
   · exact fold_all ho2 hl2 h
theorem rst_get {f : RF} {n : Nat} {s : MA × LP} {k i : Nat} (h : i < (rst f n s k).2.length) : ∀ j, (rst f n s (k + j)).2.getD i (0, 0) = (rst f n s k).2.getD i (0, 0) ∧ i < (rst f n s (k + j)).2.length
 | 0 => ⟨rfl, h⟩
 | j + 1 => by
   obtain ⟨h1, h2⟩ := rst_get h j
   have h3 := rst_len (f := f) (n := n) (s := s) (k + j)
   refine ⟨?_, by rw [← Nat.add_assoc]; omega⟩
   rw [← Nat.add_assoc, rst]
   split
   · rw [fold_get h2, h1]
   · exact h1
theorem rst_mono {f : RF} {n : Nat} {s : MA × LP} {k : Nat} {y : PA} (h : y ∈ (rst f n s k).2) : ∀ j, y ∈ (rst f n s (k + j)).2
 | 0 => h
 | j + 1 => by
   have ih := rst_mono h j
   rw [← Nat.add_assoc, rst]
   split
   · exact fold_sub ih
   · exact ih
/-- What is reached is closed. -/
theorem rst_closed {f : RF} {n : Nat} {s : MA × LP} (ho : okQ n s) (hn : n ≤ 7) {y z : PA} (hy : y ∈ (rst f n s 49).2) (hz : z ∈ fcy f n y) : z ∈ (rst f n s 49).2 := by
 obtain ⟨k, hk, e⟩ := List.getElem_of_mem hy
 have hl := (rst_ok (f := f) ho 49).len hn
 have hk2 : k < (rst f n s k).2.length := by
   refine Classical.byContradiction fun h => ?_
   have := rst_stop (f := f) (n := n) (s := s) (k := k) (by omega) (49 - k)
   rw [show k + (49 - k) = 49 by omega] at this
   rw [this] at hk
   exact h hk
 have hg := (rst_get hk2 (49 - k)).1
 rw [show k + (49 - k) = 49 by omega, getD_lt hk, e] at hg
 have hr := (rst_ok (f := f) ho k).rg _ (mem_getD (d := (0, 0)) hk2)
 have : z ∈ (rst f n s (k + 1)).2 := by
   rw [rst, if_pos hk2, ← hg]
   refine fold_all (rst_ok ho k) (fcl_rg ?_ ?_ (Nat.le_refl n)) hz
   · rw [hg]; omega
   · rw [hg]; omega
 have := rst_mono this (49 - (k + 1))
 rwa [show k + 1 + (49 - (k + 1)) = 49 by omega] at this
/-- What an arrow reaches. -/
theorem rch_iff {n : Nat} {f : RF} (hg : gr n f) {a b : Nat} (hab : f a b = true) {y : PA} : y ∈ (rch f n a b).2 ↔ rcy f a b y := by
 have hlt := hg.lt a b hab
 have ho := rs0_ok (n := n) (a := a) (b := b) ⟨by omega, by omega⟩ ⟨by omega, by omega⟩
 constructor
 · refine rst_rc (fun y hy => ?_) 49 y
   exact ⟨a, b, List.mem_singleton.mp hy, .refl⟩
 · rintro ⟨c, d, rfl, h⟩
   induction h with
   | refl => exact rch_self
   | @hd c d e h1 h2 h3 ih =>
     refine rst_closed ho hg.hn ih (fcl_m1 (a := c) (b := d) h2 h3 ?_)
     exact (hg.lt c e h2).2
   | @tl c d e h1 h2 h3 ih =>
     refine rst_closed ho hg.hn ih (fcl_m2 (a := c) (b := d) h2 h3 ?_)
     exact (hg.lt e d h2).1
theorem rch_mem {n : Nat} {f : RF} (hg : gr n f) {a b c d : Nat} (hab : f a b = true) : ((c : Int), (d : Int)) ∈ (rch f n a b).2 ↔ Rc f a b c d := by
 rw [rch_iff hg hab]
 constructor
 · rintro ⟨x, y, e, h⟩
   have e1 : c = x := by have := congrArg Prod.fst e; simp only at this; omega
   have e2 : d = y := by have := congrArg Prod.snd e; simp only at this; omega
   subst e1 e2; exact h
 · intro h; exact ⟨c, d, rfl, h⟩
theorem rch_cut {n : Nat} {f : RF} (hg : gr n f) {a b : Nat} (hab : f a b = true) : cut f (dlL f (rch f n a b).2) a b := by
 have hlt := hg.lt a b hab
 have hc := rch_rg7 (f := f) (n := n) (a := a) (b := b) hg.hn ⟨by omega, by omega⟩ ⟨by omega, by omega⟩
 refine ⟨fun x y => ?_⟩
 rw [dlL_iff fun z hz => by have := hc.2 z hz; omega, rch_mem hg hab, rch_mem hg hab]
/-- The part of a relation that goes along the edges of g is an order of g. -/
structure part (n : Nat) (g r : RF) : Prop where
 one : ∀ x y, g x y = true → (r x y = true ∨ r y x = true)
 an : ∀ x y, g x y = true → r x y = true → r y x = false
 tr : ∀ x y z, g x y = true → r x y = true → g y z = true → r y z = true → g x z = true ∧ r x z = true
theorem part_step {n : Nat} {g r : RF} (hg : gr n g) (hn : noCl g) {a b : Nat} (hab : g a b = true) {h : RF} (hc : cut g h a b) (hr : ∀ x y, g x y = true → ¬ h x y = true → (r x y = true ↔ Rc g a b x y)) (hp : part n h r) : part n g r := by
 have hs := hg.sg
 have inA : ∀ x y, g x y = true → ¬ h x y = true → Rc g a b x y ∨ Rc g a b y x := fun x y hxy hh => by
   refine Classical.byContradiction fun hq => hh ((hc.e x y).mpr ⟨hxy, fun h => hq (.inl h), fun h => hq (.inr h)⟩)
 have asym : ∀ x y, Rc g a b x y → ¬ Rc g a b y x := fun x y h1 h2 => hn x y (h1.ar hab) ((h1.symm hs hab).trans h2)
 have ng : ∀ x y, Rc g a b x y → ¬ h x y = true ∧ ¬ h y x = true := fun x y h1 => ⟨fun h2 => ((hc.e x y).mp h2).2.1 h1, fun h2 => ((hc.e y x).mp h2).2.2 h1⟩
 have one : ∀ x y, g x y = true → (r x y = true ∨ r y x = true) := fun x y hxy => by
   by_cases hh : h x y = true
   · exact hp.one x y hh
   · rcases inA x y hxy hh with h1 | h1
     · exact .inl ((hr x y hxy hh).mpr h1)
     · exact .inr ((hr y x (by rw [hg.sy]; exact hxy) (ng y x h1).1).mpr h1)
 have an : ∀ x y, g x y = true → r x y = true → r y x = false := fun x y hxy h1 => by
   by_cases hh : h x y = true
   · exact hp.an x y hh h1
   · have h2 := (hr x y hxy hh).mp h1
     cases hq : r y x with
     | false => rfl
     | true => exact absurd ((hr y x (by rw [hg.sy]; exact hxy) (ng x y h2).2).mp hq) (asym x y h2)
 refine ⟨one, an, fun x y z hxy h1 hyz h2 => ?_⟩
 have hxz : x ≠ z := fun e => by
   rw [e] at hxy h1
   have := an z y hxy h1
   rw [h2] at this; cases this
 by_cases c1 : h x y = true
 · by_cases c2 : h y z = true
   · obtain ⟨h3, h4⟩ := hp.tr x y z c1 h1 c2 h2
     exact ⟨((hc.e x z).mp h3).1, h4⟩
   · -- y z in the class, x y beside it
     have h3 := (hr y z hyz c2).mp h2
     have hgxz : g x z = true := by
       cases hq : g x z with
       | true => rfl
       | false =>
         have : Rc g a b y x := .hd h3 (by rw [hg.sy]; exact hxy) (by rw [hg.sy]; exact hq)
         exact absurd c1 (ng y x this).2
     refine ⟨hgxz, ?_⟩
     rcases one x z hgxz with h4 | h4
     · exact h4
     · by_cases c3 : h z x = true
       · obtain ⟨h5, h6⟩ := hp.tr z x y c3 h4 c1 h1
         exact absurd h5 (ng y z h3).2
       · have h5 := (hr z x (by rw [hg.sy]; exact hgxz) c3).mp h4
         have h6 : Rc g y z z x := (h3.symm hs hab).trans h5
         have h7 := h3.trans (cl_tr hs hn hyz h6)
         exact absurd c1 (ng y x h7).2
 · have h3 := (hr x y hxy c1).mp h1
   by_cases c2 : h y z = true
   · have hgxz : g x z = true := by
       cases hq : g x z with
       | true => rfl
       | false =>
         have : Rc g a b z y := .tl h3 (by rw [hg.sy]; exact hyz) hq
         exact absurd c2 (ng z y this).2
     refine ⟨hgxz, ?_⟩
     rcases one x z hgxz with h4 | h4
     · exact h4
     · by_cases c3 : h z x = true
       · obtain ⟨h5, h6⟩ := hp.tr y z x c2 h2 c3 h4
         exact absurd h5 (ng x y h3).2
       · have h5 := (hr z x (by rw [hg.sy]; exact hgxz) c3).mp h4
         have h6 : Rc g z x x y := (h5.symm hs hab).trans h3
         have h7 := h5.trans (cl_tr hs hn (by rw [hg.sy]; exact hgxz) h6)
         exact absurd c2 (ng z y h7).2
   · have h4 := (hr y z hyz c2).mp h2
     have h5 : Rc g x y y z := (h3.symm hs hab).trans h4
     have h6 := h3.trans (cl_tr hs hn hxy h5)
     have h7 := h6.ar hab
     exact ⟨h7, (hr x z h7 (ng x z h6).1).mpr h6⟩
end Go.Am.Or

/- Orders: an order is found just if there is no clash. -/
namespace Go.Am.Or
open Go Go.Am Go.Proofs
theorem cut.gr {n : Nat} {g h : RF} {a b : Nat} (hc : cut g h a b) (hg : Or.gr n g) : Or.gr n h :=
 ⟨hg.n1, hg.hn, fun x y hxy => hg.lt x y ((hc.e x y).mp hxy).1, (hc.sg hg.sg).sy, (hc.sg hg.sg).ir⟩
theorem orI_ok {n : Nat} : ∀ (k : Nat) (o g : RF), gr n g → noCl g → (∀ x y, o x y = true → ¬ g x y = true ∧ ¬ g y x = true) → (L62 n g).length < k → ∃ r, orI n k o g = some r ∧ part n g r ∧ ∀ x y, ¬ g x y = true → r x y = o x y
 | 0, _, _, _, _, _, h => absurd h (Nat.not_lt_zero _)
 | k + 1, o, g, hg, hn, ho, hk => by
   by_cases hL : L62 n g = []
   · refine ⟨o, by rw [orI, hL], ?_, fun _ _ _ => rfl⟩
     have no : ∀ x y, ¬ g x y = true := fun x y hxy => by
       have := hg.lt x y hxy
       have : ((x : Int), (y : Int)) ∈ L62 n g := (L62_mem hg.hn).mpr ⟨x, y, rfl, this.1, this.2, hxy⟩
       rw [hL] at this; cases this
     exact ⟨fun x y h => absurd h (no x y), fun x y h => absurd h (no x y), fun x y z h => absurd h (no x y)⟩
   · rw [orI_step hL]
     have hless := dl_less hg.hn (k := k) (o := o) hL
     have hm : (L62 n g).getD 0 (0, 0) ∈ L62 n g := mem_getD (List.length_pos_iff.mpr hL)
     obtain ⟨a, b, h1, h2, h3, hab⟩ := (L62_mem hg.hn).mp hm
     have ec : rc52 n (k, o, g) = (rch g n a b).2 := by unfold rc52; simp only; rw [h1]
     rw [ec] at hless ⊢
     have hs := hg.sg
     have hcut := rch_cut hg hab
     have hmem : ∀ {c d : Nat}, ((c : Int), (d : Int)) ∈ (rch g n a b).2 ↔ Rc g a b c d := rch_mem hg hab
     have hrc : ∀ y, y ∈ (rch g n a b).2 → rcy g a b y := fun y hy => (rch_iff hg hab).mp hy
     have hpos : ∀ z, z ∈ (rch g n a b).2 → 0 ≤ z.1 ∧ 0 ≤ z.2 := fun z hz => by
       obtain ⟨c, d, e, _⟩ := hrc z hz
       rw [e]; simp only; omega
     have had : ∀ x y, adL o (rch g n a b).2 x y = true ↔ o x y = true ∨ Rc g a b x y := fun x y => by rw [adL_iff hpos, hmem]
     generalize (rch g n a b).2 = c at *
     have hany : c.any (ng (adL o c)) = false := by
       rw [List.any_eq_false]
       intro y hy
       obtain ⟨p, q, e, hpq⟩ := hrc y hy
       rw [e]
       unfold ng
       simp only [Int.toNat_natCast]
       rw [had]
       have hgpq := hpq.ar hab
       rintro (h4 | h4)
       · exact (ho q p h4).2 hgpq
       · exact hn p q hgpq ((hpq.symm hs hab).trans h4)
     rw [if_neg (by rw [hany]; decide)]
     have ho' : ∀ x y, adL o c x y = true → ¬ dlL g c x y = true ∧ ¬ dlL g c y x = true := fun x y hxy => by
       rcases (had x y).mp hxy with h4 | h4
       · obtain ⟨h5, h6⟩ := ho x y h4
         exact ⟨fun h => h5 ((hcut.e x y).mp h).1, fun h => h6 ((hcut.e y x).mp h).1⟩
       · exact ⟨fun h => ((hcut.e x y).mp h).2.1 h4, fun h => ((hcut.e y x).mp h).2.2 h4⟩
     obtain ⟨r, e1, e2, e3⟩ := orI_ok k (adL o c) (dlL g c) (hcut.gr hg) (noCl_cut hs hn hab hcut) ho' (by omega)
     refine ⟨r, e1, part_step hg hn hab hcut (fun x y hxy hh => ?_) e2, fun x y hxy => ?_⟩
     · rw [e3 x y hh, had]
       exact ⟨fun h => h.elim (fun h => absurd hxy (ho x y h).1) id, .inr⟩
     · rw [e3 x y fun h => hxy ((hcut.e x y).mp h).1, Bool.eq_iff_iff, had]
       exact ⟨fun h => h.elim id fun h => absurd (h.ar hab) hxy, .inl⟩
theorem or_closed {n : Nat} {f r : RF} (hg : gr n f) (h : isOr n f r) {a b c d : Nat} (hab : r a b = true) (hc : Rc f a b c d) : r c d = true := by
 have hf := h.oi a b hab
 have h7 : ∀ x y, f x y = true → x < 7 ∧ y < 7 := fun x y hxy => by have := hg.lt x y hxy; have := hg.hn; omega
 have htr := of_decide_eq_true h.tr
 induction hc with
 | refl => exact hab
 | @hd c d e h1 h2 h3 ih =>
   have l1 := h7 c e h2
   have hcd := h.oi c d ih
   have l2 := h7 c d hcd
   rcases (h.of c e l1.1 l1.2).mp h2 with h4 | h4
   · exact h4
   · have := (htr e l1.2 c l1.1 h4).2 d l2.2 ih
     have := h.oi e d this
     rw [hg.sy, h3] at this; cases this
 | @tl c d e h1 h2 h3 ih =>
   have l1 := h7 e d h2
   have hcd := h.oi c d ih
   have l2 := h7 c d hcd
   rcases (h.of e d l1.1 l1.2).mp h2 with h4 | h4
   · exact h4
   · have := (htr c l2.1 d l2.2 ih).2 e l1.1 h4
     have := h.oi c e this
     rw [h3] at this; cases this
theorem isOr.noCl {n : Nat} {f r : RF} (hg : gr n f) (h : isOr n f r) : noCl f := fun a b hab hc => by
 have h7 : a < 7 ∧ b < 7 := by have := hg.lt a b hab; have := hg.hn; omega
 have htr := of_decide_eq_true h.tr
 have no : ∀ x y, x < 7 → y < 7 → r x y = true → r y x = true → False := fun x y hx hy h1 h2 => by
   have := (htr x hx y hy h1).1
   rw [h2] at this; cases this
 rcases (h.of a b h7.1 h7.2).mp hab with h1 | h1
 · exact no a b h7.1 h7.2 h1 (or_closed hg h h1 hc)
 · exact no b a h7.2 h7.1 h1 (or_closed hg h h1 (hc.inv hg.sg))
/-- Golumbic: an order is found just if there is no clash. -/
theorem orR_iff {n : Nat} {f : RF} (hg : gr n f) : (orR n f).2 = true ↔ noCl f := by
 constructor
 · intro h; exact (orR_isOr hg h).noCl hg
 · intro hn
   obtain ⟨r, e1, e2, e3⟩ := orI_ok 50 zf f hg hn (fun x y h => by cases h) L62_len
   unfold orR
   rw [e1]
   have hin : ∀ x y, r x y = true → f x y = true := fun x y h => by
     refine Classical.byContradiction fun hq => ?_
     rw [e3 x y hq] at h; cases h
   refine decide_eq_true fun a ha b hb hab => ⟨e2.an a b (hin a b hab) hab, fun c hc hbc => ?_⟩
   exact (e2.tr a b c (hin a b hab) hab (hin b c hbc) hbc).2
end Go.Am.Or

/- Orders: the reference: arrows, others, forces, classes. Printed by genI1.py. -/
namespace Go.Am.Or
open Go Go.Am Go.Proofs
def jr (e : LP) (x y : Nat) : Bool := !decide (x = y) && jnB e x y
noncomputable def L57_0 : Code := lp (bodyOf Try.f57) 0
noncomputable def L57_2 : Code := lp (bodyOf Try.f57) 2
def az57 (n : Nat) (e : LP) (a : Nat) : St := ⟨(.int .i64 n :: .sl P2 e :: dd 3 ++ nl :: .int .i64 a :: dd 27), []⟩
def at57 (n : Nat) (e : LP) (a : Nat) (r : LP) : St := ⟨(.int .i64 n :: .sl P2 e :: dd 3 ++ .own 0 0 :: .int .i64 a :: dd 27), [.sc 0 52 P2 r]⟩
def bz57 (n : Nat) (e : LP) (a b : Nat) : St := ⟨(.int .i64 n :: .sl P2 e :: dd 3 ++ nl :: .int .i64 a :: .int .i64 b :: dd 26), []⟩
def bt57 (n : Nat) (e : LP) (a : Nat) (r : LP) (b : Nat) : St := ⟨(.int .i64 n :: .sl P2 e :: dd 3 ++ .own 0 0 :: .int .i64 a :: .int .i64 b :: dd 26), [.sc 0 52 P2 r]⟩
def fb57 (n : Nat) (e : LP) (a : Nat) : List Fam := [⟨Nat, fun b => b ≤ n ∧ prK (P62 n (jr e)) 7 (a * 7 + b) = [], bz57 n e a, fun b => n - b, fun _ _ => none⟩, ⟨Nat, fun b => b ≤ n, fun b => bt57 n e a (prK (P62 n (jr e)) 7 (a * 7 + b)) b, fun b => n - b, fun _ _ => none⟩]
def xb57 (n : Nat) (e : LP) (a : Nat) : List (List Nat × Ex) := [([0, 1, 5, 6], ⟨2, Unit, fun _ => prK (P62 n (jr e)) 7 (a * 7 + n) = [], fun _ => az57 n e a⟩), ([0, 1, 5, 6], ⟨2, Unit, fun _ => True, fun _ => at57 n e a (prK (P62 n (jr e)) 7 (a * 7 + n))⟩)]
def hb57 (n : Nat) (e : LP) (a : Nat) : Hint := ⟨chks 0 [0, 1, 5, 6, 7] (fb57 n e a), (xb57 n e a).map (·.2)⟩
theorem loop57b (n : Nat) (e : LP) (hn : n ≤ 7) (he : e.length < 1000000000000000) (a : Nat) (ha : a < n) (R : Exit → St → Prop) : LoopOK (X [e58]) L57_2 (hb57 n e a) R := by
 have hP : ∀ b, b < n → (P62 n (jr e)) a b = (!decide (a = b) && jnB e a b) := fun b h1 => by
   have hab := decide_eq_true ha
   have hbn := decide_eq_true h1
   simp only [P46, P62, jr, hab, hbn, Bool.true_and]
 refine loop_fams (X_ok _) [0, 1, 5, 6, 7] (fb57 n e a) (xb57 n e a) 250 ⟨fun (b : Nat) hb => ?_, fun (b : Nat) hb => ?_, trivial⟩
 · refine of_eq (q := (fun (j : Nat) => (fun (h : Prop) => (fun (g : Int) => (fun (i : Int) => (fun (f : Int) => (fun (d : Int) => (fun (c : Prop) => h ∧ h ∧ h ∧ (g < f → h ∧ h ∧ h ∧ h ∧ (¬d = g → h ∧ h ∧ h ∧ (List.length e + 1 ≤ 1000000000000000 ∧ h) ∧ h ∧ (jnB e d g = true → h ∧ h ∧ h ∧ h ∧ h ∧ sumPre (0 : Nat) [(d, g)].length (nat_lit 16) ∧ h ∧ h ∧ inR .i64 i ∧ h ∧ ((∃ (y : Nat), ((y ≤ n ∧ prK (P62 n (jr e)) j (a * j + y) = []) ∧ n - y < n - b) ∧ (f = f ∧ e = e ∧ False ∧ d = d ∧ i = (y : Int) ∧ h) ∧ h) ∨ ∃ (y : Nat), (y ≤ n ∧ n - y < n - b) ∧ (f = f ∧ e = e ∧ h ∧ d = d ∧ i = (y : Int) ∧ h) ∧ [(d, g)] = prK (P62 n (jr e)) j (a * j + y) ∧ h)) ∧ (jnB e d g = false → c)) ∧ (¬¬d = g → h ∧ c)) ∧ (¬g < f → (∃ (y : Unit), prK (P62 n (jr e)) j (a * j + n) = [] ∧ (f = f ∧ e = e ∧ h ∧ d = d ∧ h) ∧ h) ∨ ∃ (y : Unit), h ∧ (f = f ∧ e = e ∧ False ∧ d = d ∧ h) ∧ False)) (h ∧ inR .i64 i ∧ h ∧ ((∃ (y : Nat), ((y ≤ n ∧ prK (P62 n (jr e)) j (a * j + y) = []) ∧ n - y < n - b) ∧ (f = f ∧ e = e ∧ h ∧ d = d ∧ i = (y : Int) ∧ h) ∧ h) ∨ ∃ (y : Nat), (y ≤ n ∧ n - y < n - b) ∧ (f = f ∧ e = e ∧ False ∧ d = d ∧ i = (y : Int) ∧ h) ∧ False))) ((a : Int))) ((n : Int))) (g + 1)) ((b : Int))) (True)) ((7 : Nat))) (by kernel_rfl) ?_
   simp only [zz]
   obtain ⟨b1, b2⟩ := hb
   refine ⟨fun h1 => ?_, fun h1 => by rwa [show b = n by omega] at b2⟩
   have h1 : b < n := by omega
   have hst := prK_step (P := P62 n (jr e)) (i := a) (j := b) (w := 7) (by omega)
   rw [hP b h1] at hst
   have yes : (!decide (a = b) && jnB e a b) = true → ∃ y : Nat, ((y ≤ n) ∧ n - y < n - b) ∧ (b : Int) + 1 = y ∧ [((a : Int), (b : Int))] = prK (P62 n (jr e)) 7 (a * 7 + y) := fun h => ⟨b + 1, ⟨by omega, by omega⟩, by omega, by rw [hst, if_pos h, b2]; rfl⟩
   have no : (!decide (a = b) && jnB e a b) = false → ∃ y : Nat, (((y ≤ n) ∧ prK (P62 n (jr e)) 7 (a * 7 + y) = []) ∧ n - y < n - b) ∧ (b : Int) + 1 = y := fun h => ⟨b + 1, ⟨⟨by omega, by rw [hst, if_neg (by rw [h]; decide)]; exact b2⟩, by omega⟩, by omega⟩
   have iR := in1 (i := b) (by omega)
   have sP : sumPre 0 [((a : Int), (b : Int))].length 16 := by simp [sumPre]
   clear hst hP b2
   have he1 : e.length + 1 ≤ 1000000000000000 := by omega
   (repeat' first | with_reducible exact trivial | with_reducible apply And.intro | intro _)
   all_goals first | exact iR | exact sP | assumption | exact yes (by clear yes no; simp_all [Int.ofNat_inj]) | exact no (by clear yes no; simp_all [Int.ofNat_inj])
 · refine of_eq (q := (fun (k : Nat) => (fun (m : LP) => (fun (j : Prop) => (fun (i : Int) => (fun (h : Int) => (fun (l : Int) => (fun (g : Int) => (fun (f : LP) => (fun (d : Prop) => (fun (c : Prop) => j ∧ j ∧ j ∧ (h < i → j ∧ j ∧ j ∧ j ∧ (¬g = h → j ∧ j ∧ j ∧ (List.length e + 1 ≤ 1000000000000000 ∧ j) ∧ j ∧ (jnB e g h = true → j ∧ j ∧ j ∧ j ∧ j ∧ sumPre (List.length f) [(g, h)].length (nat_lit 16) ∧ j ∧ j ∧ inR .i64 l ∧ j ∧ (d ∨ ∃ (y : Nat), (y ≤ n ∧ n - y < n - b) ∧ (i = i ∧ e = e ∧ j ∧ g = g ∧ l = (y : Int) ∧ j) ∧ f ++ [(g, h)] = prK (P62 n (jr e)) k (a * k + y) ∧ j)) ∧ (jnB e g h = false → c)) ∧ (¬¬g = h → j ∧ c)) ∧ (¬h < i → (∃ (y : Unit), m = [] ∧ (i = i ∧ e = e ∧ False ∧ g = g ∧ j) ∧ j) ∨ ∃ (y : Unit), j ∧ (i = i ∧ e = e ∧ j ∧ g = g ∧ j) ∧ f = m ∧ j)) (j ∧ inR .i64 l ∧ j ∧ (d ∨ ∃ (y : Nat), (y ≤ n ∧ n - y < n - b) ∧ (i = i ∧ e = e ∧ j ∧ g = g ∧ l = (y : Int) ∧ j) ∧ f = prK (P62 n (jr e)) k (a * k + y) ∧ j))) (∃ (y : Nat), ((y ≤ n ∧ prK (P62 n (jr e)) k (a * k + y) = []) ∧ n - y < n - b) ∧ (i = i ∧ e = e ∧ False ∧ g = g ∧ l = (y : Int) ∧ j) ∧ j)) (prK (P62 n (jr e)) k (a * k + b))) ((a : Int))) (h + 1)) ((b : Int))) ((n : Int))) (True)) (prK (P62 n (jr e)) k (a * k + n))) ((7 : Nat))) (by kernel_rfl) ?_
   simp only [zz]
   have b1 : b ≤ n := hb
   have hlen := prK_len (P62 n (jr e)) 7 (a * 7 + b)
   refine ⟨fun h1 => ?_, fun h1 => by rw [show b = n by omega]⟩
   have h1 : b < n := by omega
   have hst := prK_step (P := P62 n (jr e)) (i := a) (j := b) (w := 7) (by omega)
   rw [hP b h1] at hst
   have yes : (!decide (a = b) && jnB e a b) = true → ∃ y : Nat, ((y ≤ n) ∧ n - y < n - b) ∧ (b : Int) + 1 = y ∧ prK (P62 n (jr e)) 7 (a * 7 + b) ++ [((a : Int), (b : Int))] = prK (P62 n (jr e)) 7 (a * 7 + y) := fun h => ⟨b + 1, ⟨by omega, by omega⟩, by omega, by rw [hst, if_pos h]⟩
   have no : (!decide (a = b) && jnB e a b) = false → ∃ y : Nat, ((y ≤ n) ∧ n - y < n - b) ∧ (b : Int) + 1 = y ∧ prK (P62 n (jr e)) 7 (a * 7 + b) = prK (P62 n (jr e)) 7 (a * 7 + y) := fun h => ⟨b + 1, ⟨by omega, by omega⟩, by omega, by rw [hst, if_neg (by rw [h]; decide)]⟩
   have iR := in1 (i := b) (by omega)
   have sP : sumPre (prK (P62 n (jr e)) 7 (a * 7 + b)).length [((a : Int), (b : Int))].length 16 := by unfold sumPre; simp; omega
   clear hst hP
   have he1 : e.length + 1 ≤ 1000000000000000 := by omega
   (repeat' first | with_reducible exact trivial | with_reducible apply And.intro | intro _)
   all_goals first | exact iR | exact sP | assumption | exact yes (by clear yes no; simp_all [Int.ofNat_inj]) | exact no (by clear yes no; simp_all [Int.ofNat_inj])
def fa57 (n : Nat) (e : LP) : List Fam := [⟨Nat, fun a => a ≤ n ∧ prK (P62 n (jr e)) 7 (a * 7) = [], az57 n e, fun a => n - a, fun a _ => some (hb57 n e a)⟩, ⟨Nat, fun a => a ≤ n, fun a => at57 n e a (prK (P62 n (jr e)) 7 (a * 7)), fun a => n - a, fun a _ => some (hb57 n e a)⟩]
def xa57 (n : Nat) (e : LP) : List (List Nat × Ex) := [([5], ⟨0, Unit, fun _ => L62 n (jr e) = [], fun _ => ⟨(dd 5 ++ nl :: dd 28), []⟩⟩), ([5], ⟨0, Unit, fun _ => True, fun _ => ⟨(dd 5 ++ .own 0 0 :: dd 28), [.sc 0 52 P2 (L62 n (jr e))]⟩⟩)]
def ha57 (n : Nat) (e : LP) : Hint := ⟨chks 0 [0, 1, 5, 6] (fa57 n e), (xa57 n e).map (·.2)⟩
theorem loop57a (n : Nat) (e : LP) (hn : n ≤ 7) (he : e.length < 1000000000000000) (R : Exit → St → Prop) : LoopOK (X [e58]) L57_0 (ha57 n e) R := by
 have hrow : ∀ a, prK (P62 n (jr e)) 7 (a * 7 + n) = prK (P62 n (jr e)) 7 ((a + 1) * 7) := fun a => by
   rw [Nat.succ_mul]
   exact (prK_row hn (by omega) fun j h1 h2 => by simp only [P46, P62]; simp; omega).symm
 have hbeg : ∀ a, a < n → prK (P62 n (jr e)) 7 (a * 7) = prK (P62 n (jr e)) 7 (a * 7 + 0) := fun a ha => (prK_row (b := 0) (by omega) (by omega) fun j h1 h2 => by simp only [P46, P62]; simp; omega).symm
 have hall : prK (P62 n (jr e)) 7 (n * 7) = L62 n (jr e) := prK_rows hn fun i j h => by simp only [P46, P62]; simp; omega
 refine loop_fams (X_ok _) [0, 1, 5, 6] (fa57 n e) (xa57 n e) 250 ⟨fun (a : Nat) ha => ?_, fun (a : Nat) ha => ?_, trivial⟩
 · have hL := fun h1 R => loop57b n e hn he a h1 R
   have hrow := hrow a
   have hbeg := hbeg a
   refine of_eq (q := (fun (f : Prop) => (fun (d : Nat) => (fun (h : LP) => (fun (c : Int) => (fun (g : Int) => (fun (b : Int) => f ∧ f ∧ f ∧ (c < b → f ∧ LoopOK (X [e58]) L57_2 (hb57 n e a) (bodyR (X [e58]).m0 (xa57 n e) R) ∧ ((∃ (y : Nat), (y ≤ n ∧ prK (P62 n (jr e)) d (a * d + y) = []) ∧ (b = b ∧ e = e ∧ f ∧ c = c ∧ (0 : Int) = (y : Int) ∧ f) ∧ f) ∨ ∃ (y : Nat), y ≤ n ∧ (b = b ∧ e = e ∧ False ∧ c = c ∧ (0 : Int) = (y : Int) ∧ f) ∧ False) ∧ (∀ (y : Unit), h = [] → f ∧ inR .i64 g ∧ f ∧ ((∃ (y : Nat), ((y ≤ n ∧ prK (P62 n (jr e)) d (y * d) = []) ∧ n - y < n - a) ∧ (b = b ∧ e = e ∧ f ∧ g = (y : Int) ∧ f) ∧ f) ∨ ∃ (y : Nat), (y ≤ n ∧ n - y < n - a) ∧ (b = b ∧ e = e ∧ False ∧ g = (y : Int) ∧ f) ∧ False)) ∧ (∀ (y : Unit), f → f ∧ inR .i64 g ∧ f ∧ ((∃ (y : Nat), ((y ≤ n ∧ prK (P62 n (jr e)) d (y * d) = []) ∧ n - y < n - a) ∧ (b = b ∧ e = e ∧ False ∧ g = (y : Int) ∧ f) ∧ f) ∨ ∃ (y : Nat), (y ≤ n ∧ n - y < n - a) ∧ (b = b ∧ e = e ∧ f ∧ g = (y : Int) ∧ f) ∧ h = prK (P62 n (jr e)) d (y * d) ∧ f)) ∧ f) ∧ (¬c < b → (∃ (y : Unit), L62 n (jr e) = [] ∧ (f ∧ f) ∧ f) ∨ ∃ (y : Unit), f ∧ (False ∧ f) ∧ False)) ((n : Int))) (c + 1)) ((a : Int))) (prK (P62 n (jr e)) d (a * d + n))) ((7 : Nat))) (True)) (by kernel_rfl) ?_
   simp only [zz]
   obtain ⟨a1, a2⟩ := ha
   have z0 : a < n → ∃ y : Nat, ((y ≤ n) ∧ prK (P62 n (jr e)) 7 (a * 7 + y) = []) ∧ (0 : Int) = y := fun h => ⟨0, ⟨by omega, by rw [← hbeg h]; exact a2⟩, by omega⟩
   refine ⟨fun h1 => ⟨hL (by omega) _, z0 (by omega), fun _ h2 => ⟨in1 (by omega), a + 1, ⟨⟨by omega, by rw [← hrow]; exact h2⟩, by omega⟩, by omega⟩, fun _ _ => ⟨in1 (by omega), a + 1, ⟨by omega, by omega⟩, by omega, hrow⟩⟩, fun h1 => ?_⟩
   have e0 : a = n := by omega
   rw [← hall]; rw [e0] at a2; exact a2
 · have hL := fun h1 R => loop57b n e hn he a h1 R
   have hrow := hrow a
   have hbeg := hbeg a
   refine of_eq (q := (fun (f : Prop) => (fun (d : Int) => (fun (g : Int) => (fun (c : Nat) => (fun (i : LP) => (fun (h : LP) => (fun (b : Int) => f ∧ f ∧ f ∧ (d < b → f ∧ LoopOK (X [e58]) L57_2 (hb57 n e a) (bodyR (X [e58]).m0 (xa57 n e) R) ∧ ((∃ (y : Nat), (y ≤ n ∧ prK (P62 n (jr e)) c (a * c + y) = []) ∧ (b = b ∧ e = e ∧ False ∧ d = d ∧ (0 : Int) = (y : Int) ∧ f) ∧ f) ∨ ∃ (y : Nat), y ≤ n ∧ (b = b ∧ e = e ∧ f ∧ d = d ∧ (0 : Int) = (y : Int) ∧ f) ∧ i = prK (P62 n (jr e)) c (a * c + y) ∧ f) ∧ (∀ (y : Unit), h = [] → f ∧ inR .i64 g ∧ f ∧ ((∃ (y : Nat), ((y ≤ n ∧ prK (P62 n (jr e)) c (y * c) = []) ∧ n - y < n - a) ∧ (b = b ∧ e = e ∧ f ∧ g = (y : Int) ∧ f) ∧ f) ∨ ∃ (y : Nat), (y ≤ n ∧ n - y < n - a) ∧ (b = b ∧ e = e ∧ False ∧ g = (y : Int) ∧ f) ∧ False)) ∧ (∀ (y : Unit), f → f ∧ inR .i64 g ∧ f ∧ ((∃ (y : Nat), ((y ≤ n ∧ prK (P62 n (jr e)) c (y * c) = []) ∧ n - y < n - a) ∧ (b = b ∧ e = e ∧ False ∧ g = (y : Int) ∧ f) ∧ f) ∨ ∃ (y : Nat), (y ≤ n ∧ n - y < n - a) ∧ (b = b ∧ e = e ∧ f ∧ g = (y : Int) ∧ f) ∧ h = prK (P62 n (jr e)) c (y * c) ∧ f)) ∧ f) ∧ (¬d < b → (∃ (y : Unit), L62 n (jr e) = [] ∧ (False ∧ f) ∧ f) ∨ ∃ (y : Unit), f ∧ (f ∧ f) ∧ i = L62 n (jr e) ∧ f)) ((n : Int))) (prK (P62 n (jr e)) c (a * c + n))) (prK (P62 n (jr e)) c (a * c))) ((7 : Nat))) (d + 1)) ((a : Int))) (True)) (by kernel_rfl) ?_
   simp only [zz]
   have a1 : a ≤ n := ha
   refine ⟨fun h1 => ⟨hL (by omega) _, ⟨0, by omega, rfl, hbeg (by omega)⟩, fun _ h2 => ⟨in1 (by omega), a + 1, ⟨⟨by omega, by rw [← hrow]; exact h2⟩, by omega⟩, by omega⟩, fun _ _ => ⟨in1 (by omega), a + 1, ⟨by omega, by omega⟩, by omega, hrow⟩⟩, fun h1 => ?_⟩
   have e0 : a = n := by omega
   rw [← hall, e0]
theorem call57 (n : Nat) (hn : n ≤ 7) (e : LP) (he : e.length < 1000000000000000) : GCall Try.prog gl 57 true [.int .i64 n, .sl P2 e] [] [.sl P2 (L62 n (jr e))] [] := by
 refine gcall_of (X := (X [e58])) ((X_ok _)) (f := 57) (fn := Try.f57) (c := bodyOf Try.f57) (by kernel_rfl) (by kernel_rfl) (view := true) (rvs := [.tmp 4]) (by kernel_rfl) (H := (fun _ => some (ha57 n e))) 150 (by kernel_rfl) ?_
 have hL := fun R => loop57a n e hn he R
 refine of_eq (q := (fun (b : Prop) => (fun (a : LP) => b ∧ b ∧ b ∧ LoopOK (X [e58]) L57_0 (ha57 n e) (RetR (X [e58]) true true [ResultVar.tmp (4 : Tmp)] [AV.sl P2 a] []) ∧ ((∃ (y : Nat), (y ≤ n ∧ prK (P62 n (jr e)) (7 : Nat) (y * 7) = []) ∧ ((n : Int) = (n : Int) ∧ e = e ∧ b ∧ (0 : Int) = (y : Int) ∧ b) ∧ b) ∨ ∃ (y : Nat), y ≤ n ∧ ((n : Int) = (n : Int) ∧ e = e ∧ False ∧ (0 : Int) = (y : Int) ∧ b) ∧ False) ∧ (∀ (y : Unit), a = [] → b ∧ b ∧ b ∧ (([] : List (Int × Int)) = a ∧ b) ∧ b) ∧ (∀ (y : Unit), b → b ∧ b ∧ b ∧ (a = a ∧ b) ∧ b) ∧ b) (L62 n (jr e))) (True)) (by kernel_rfl) ?_
 simp only [zz]
 exact ⟨hL _, ⟨0, ⟨Nat.zero_le _, rfl⟩, rfl⟩, fun _ h => h.symm, fun _ _ => trivial⟩
theorem e57_of {n : Int} {e : LP} (h : (0 ≤ n ∧ n ≤ 7) ∧ e.length < 1000000000000000) : GCall Try.prog gl 57 true [.int .i64 n, .sl P2 e] [] [.sl P2 (L62 n.toNat (jr e))] [] := by
 have := call57 n.toNat (by omega) e h.2
 rwa [Int.toNat_of_nonneg h.1.1] at this
def e57 : Entry Try.prog gl := entry2 57 ⟨Try.f57, by kernel_rfl, by kernel_rfl, by kernel_rfl⟩ I64 SP (fun (n : Int) e => (0 ≤ n ∧ n ≤ 7) ∧ (e : LP).length < 1000000000000000) true (fun (n : Int) e => [.sl P2 (L62 n.toNat (jr e))]) (fun _ _ => []) (fun (n : Int) e h => e57_of h)
theorem jr_eg {n : Nat} {e : LP} (he : grOk n e) (x y : Nat) : jr e x y = eg e x y := by
 have hg := gr_eg he
 unfold jr
 rcases Nat.lt_trichotomy x y with h | h | h
 · rw [decide_eq_false (show ¬ x = y by omega), Bool.not_false, Bool.true_and, Bool.eq_iff_iff, jn_eg he h]
 · subst h
   rw [decide_eq_true rfl, hg.ir]; try rfl
 · have e1 : jnB e (x : Int) (y : Int) = jnB e (y : Int) (x : Int) := by
     unfold jnB minI maxI
     rw [if_pos (by omega), if_neg (by omega), if_neg (by omega), if_pos (by omega)]
   rw [decide_eq_false (show ¬ x = y by omega), Bool.not_false, Bool.true_and, e1, Bool.eq_iff_iff, jn_eg he h, hg.sy]
def frB (e : LP) (x y : PA) : Bool := if x = y then true else if x.1 = y.1 then !jnB e x.2 y.2 else decide (x.2 = y.2) && !jnB e x.1 y.1
theorem call43 (e : LP) (x y : PA) (he : e.length < 1000000000000000) : GCall Try.prog gl 43 true [.sl P2 e, pa x.1 x.2, pa y.1 y.2] [] [.bool (frB e x y)] [] := by
 refine gcall_of (X := (X [e58])) ((X_ok _)) (f := 43) (fn := Try.f43) (c := bodyOf Try.f43) (by kernel_rfl) (by kernel_rfl) (view := false) (rvs := [.tmp 6]) (by kernel_rfl) (H := fun _ => none) 150 (by kernel_rfl) ?_
 refine of_eq (q := (fun (g : Prop) => (fun (f : Bool) => (fun (c : Prop) => (fun (b : Prop) => (fun (a : Prop) => (fun (d : Prop) => a ∧ a ∧ a ∧ a ∧ a ∧ a ∧ (g → a ∧ a ∧ (true = f ∧ a) ∧ a) ∧ (¬g → c ∧ a ∧ c ∧ a ∧ a ∧ (x.fst = y.fst → a ∧ b ∧ a ∧ b ∧ a ∧ d ∧ a ∧ a ∧ a ∧ ((!jnB e x.snd y.snd) = f ∧ a) ∧ a) ∧ (¬x.fst = y.fst → b ∧ a ∧ b ∧ a ∧ a ∧ a ∧ (x.snd = y.snd → a ∧ c ∧ a ∧ c ∧ a ∧ d ∧ a ∧ a ∧ a ∧ a ∧ ((!jnB e x.fst y.fst) = f ∧ a) ∧ a) ∧ (¬x.snd = y.snd → a ∧ a ∧ a ∧ (false = f ∧ a) ∧ a)))) (List.length e + 1 ≤ 1000000000000000 ∧ a)) (True)) (idxPre (1 : Int) (2 : Nat))) (idxPre (0 : Int) (2 : Nat))) (frB e x y)) ((x.fst, x.snd) = (y.fst, y.snd))) (by kernel_rfl) ?_
 simp only [zz]
 have he1 : e.length + 1 ≤ 1000000000000000 := by omega
 unfold frB
 refine ⟨fun h => ?_, fun h => ?_⟩
 · have h : x = y := h
   rw [if_pos h]
 · have h : ¬ x = y := h
   rw [if_neg h]
   refine ⟨i02, i02, fun h2 => ?_, fun h2 => ?_⟩
   · rw [if_pos h2]; exact ⟨i12, i12, he, rfl⟩
   · rw [if_neg h2]
     refine ⟨i12, i12, fun h3 => ⟨i02, i02, he, ?_⟩, fun h3 => ?_⟩
     · rw [decide_eq_true h3]; try rfl
     · rw [decide_eq_false h3]; try rfl
def e43 : Entry Try.prog gl := entry3 43 ⟨Try.f43, by kernel_rfl, by kernel_rfl, by kernel_rfl⟩ SP P2 P2 (fun e _ _ => (e : LP).length < 1000000000000000) true (fun e x y => [.bool (frB e x y)]) (fun _ _ _ => []) (fun e x y h => call43 e x y h)
end Go.Am.Or

/- Orders: the reference: the class of an arrow. -/
namespace Go.Am.Or
open Go Go.Am Go.Proofs
abbrev MI := List (PA × Int)
theorem iGet_if {e : PA × Int} {M : MI} {y : PA} : mGet P2 (e :: M) y = if y = e.1 then some e.2 else mGet P2 M y := by
 rw [mGet]
 cases h : P2.deq y e.1 with
 | isTrue h1 => exact (if_pos h1).symm
 | isFalse h1 => exact (if_neg h1).symm
theorem iPut_if {e : PA × Int} {M : MI} {x : PA} {z : Int} : mPut P2 (e :: M) x z = if x = e.1 then (x, z) :: M else e :: mPut P2 M x z := by
 rw [mPut]
 cases h : P2.deq x e.1 with
 | isTrue h1 => exact (if_pos h1).symm
 | isFalse h1 => exact (if_neg h1).symm
theorem iGet_put {M : MI} {x y : PA} {z : Int} : mGet P2 (mPut P2 M x z) y = if y = x then some z else mGet P2 M y := by
 induction M with
 | nil => rw [mPut, iGet_if]
 | cons p M ih =>
   rw [iPut_if]
   split
   · rename_i h
     rw [iGet_if, iGet_if, ← h]
     split
     · rfl
     · rfl
   · rename_i h
     rw [iGet_if, iGet_if, ih]
     by_cases e : y = x
     · rw [if_pos e, if_pos e, if_neg (by rw [e]; exact h)]
     · rw [if_neg e, if_neg e]
def stK (e : LP) (i : Nat) (s : MI × LP) (y : PA) : MI × LP := if (mGet P2 s.1 y).isSome = false ∧ frB e (s.2.getD i (0, 0)) y = true then (mPut P2 s.1 y ((mGet P2 s.1 (s.2.getD i (0, 0))).getD 0 + 1), s.2 ++ [y]) else s
/-- What is known of the search. -/
structure okK (all : LP) (s : MI × LP) : Prop where
 nd : s.2.Nodup
 inn : ∀ y, y ∈ s.2 → y ∈ all
 dom : ∀ y, (mGet P2 s.1 y).isSome = true ↔ y ∈ s.2
 val : ∀ y v, mGet P2 s.1 y = some v → 0 ≤ v ∧ v < s.2.length
theorem stK_ok {e : LP} {i : Nat} {all : LP} {s : MI × LP} {y : PA} (h : okK all s) (hi : i < s.2.length) (hy : y ∈ all) : okK all (stK e i s y) ∧ s.2.length ≤ (stK e i s y).2.length := by
 unfold stK
 split
 · rename_i hc
   have hn : ¬ y ∈ s.2 := fun h1 => by rw [(h.dom y).mpr h1] at hc; cases hc.1
   obtain ⟨v, hv⟩ := Option.isSome_iff_exists.mp ((h.dom _).mpr (mem_getD (d := (0, 0)) hi))
   have hb := h.val _ _ hv
   refine ⟨⟨?_, fun z hz => ?_, fun z => ?_, fun z w hw => ?_⟩, by simp⟩
   · show (s.2 ++ [y]).Nodup
     rw [List.nodup_append]
     exact ⟨h.nd, by simp, fun a ha b hb e => hn (by rw [List.mem_singleton] at hb; rw [← hb, ← e]; exact ha)⟩
   · rcases List.mem_append.mp hz with h1 | h1
     · exact h.inn z h1
     · rw [List.mem_singleton.mp h1]; exact hy
   · show (mGet P2 (mPut P2 s.1 y _) z).isSome = true ↔ z ∈ s.2 ++ [y]
     rw [iGet_put, List.mem_append, List.mem_singleton, ← h.dom z]
     by_cases ez : z = y
     · rw [if_pos ez]; simp [ez]
     · rw [if_neg ez]; simp [ez]
   · show 0 ≤ w ∧ w < ((s.2 ++ [y]).length : Int)
     have hw : mGet P2 (mPut P2 s.1 y ((mGet P2 s.1 (s.2.getD i (0, 0))).getD 0 + 1)) z = some w := hw
     rw [iGet_put, hv] at hw
     rw [List.length_append, List.length_singleton]
     split at hw
     · injection hw with hw; rw [← hw]; simp only [Option.getD_some]; omega
     · have := h.val z w hw; omega
 · exact ⟨h, Nat.le_refl _⟩
theorem fdK_ok {e : LP} {i : Nat} {all : LP} : ∀ {l : LP} {s : MI × LP}, okK all s → i < s.2.length → (∀ y, y ∈ l → y ∈ all) → okK all (l.foldl (stK e i) s) ∧ s.2.length ≤ (l.foldl (stK e i) s).2.length
 | [], _, h, _, _ => ⟨h, Nat.le_refl _⟩
 | y :: l, s, h, hi, hl => by
   obtain ⟨h1, h2⟩ := stK_ok (e := e) h hi (hl y (by simp))
   obtain ⟨h3, h4⟩ := fdK_ok (e := e) (l := l) h1 (Nat.lt_of_lt_of_le hi h2) fun z hz => hl z (by simp [hz])
   exact ⟨h3, Nat.le_trans h2 h4⟩
/-- The state behind k rounds. -/
def rsK (e all : LP) (s : MI × LP) : Nat → MI × LP
 | 0 => s
 | k + 1 => if k < (rsK e all s k).2.length then all.foldl (stK e k) (rsK e all s k) else rsK e all s k
theorem rsK_ok {e all : LP} {s : MI × LP} (h : okK all s) : ∀ k, okK all (rsK e all s k)
 | 0 => h
 | k + 1 => by
   have ih := rsK_ok (e := e) h k
   rw [rsK]
   split
   · rename_i hk; exact (fdK_ok ih hk fun y hy => hy).1
   · exact ih
theorem rsK_len {e all : LP} {s : MI × LP} (h : okK all s) (k : Nat) : (rsK e all s k).2.length ≤ (rsK e all s (k + 1)).2.length := by
 rw [rsK]
 split
 · rename_i hk; exact (fdK_ok (rsK_ok h k) hk fun y hy => hy).2
 · exact Nat.le_refl _
theorem rsK_stop {e all : LP} {s : MI × LP} {k : Nat} (h : (rsK e all s k).2.length ≤ k) : ∀ j, rsK e all s (k + j) = rsK e all s k
 | 0 => rfl
 | j + 1 => by
   have := rsK_stop h j
   rw [← Nat.add_assoc, rsK, this, if_neg (by omega)]
theorem nodup_le {l m : LP} (h1 : l.Nodup) (h2 : ∀ y, y ∈ l → y ∈ m) : l.length ≤ m.length := by
 induction l generalizing m with
 | nil => exact Nat.zero_le _
 | cons y l ih =>
   rw [List.nodup_cons] at h1
   have hy := h2 y (by simp)
   have := ih (m := m.erase y) h1.2 fun z hz => (List.mem_erase_of_ne (fun e : z = y => h1.1 (by rw [← e]; exact hz))).mpr (h2 z (by simp [hz]))
   rw [List.length_erase_of_mem hy] at this
   have := List.length_pos_of_mem hy
   rw [List.length_cons]; omega
def sK0 (x : PA) : MI × LP := ([(x, 0)], [x])
theorem sK0_ok {all : LP} {x : PA} (h : x ∈ all) : okK all (sK0 x) := by
 refine ⟨by simp [sK0], fun y hy => ?_, fun y => ?_, fun y v hv => ?_⟩
 · rw [List.mem_singleton.mp hy]; exact h
 · have : (mGet P2 [(x, (0 : Int))] y).isSome = true ↔ y ∈ [x] := by
     rw [iGet_if, List.mem_singleton]
     by_cases e : y = x
     · rw [if_pos e]; simp [e]
     · rw [if_neg e]; simp [mGet, e]
   exact this
 · have hv : mGet P2 [(x, (0 : Int))] y = some v := hv
   rw [iGet_if] at hv
   split at hv
   · injection hv with hv
     show 0 ≤ v ∧ v < 1
     omega
   · cases hv
def clK (e all : LP) (x : PA) : MI × LP := rsK e all (sK0 x) all.length
noncomputable def L44_0 : Code := lp (bodyOf Try.f44) 0
noncomputable def L44_2 : Code := lp (bodyOf Try.f44) 2
noncomputable def L44_4 : Code := lp (bodyOf Try.f44) 4
noncomputable abbrev X44 : Cy := X [e57, e43]
def oM (M : MI) : Ob := .mo P2 I64 M
def sa44 (e all : LP) (s : MI × LP) (i : Nat) : St := ⟨(.dead :: .sl P2 e :: dd 6 ++ .sl P2 all :: .mp 0 :: .own 1 0 :: .int .i64 i :: dd 99), [oM (rsK e all s i).1, .sc 0 52 P2 (rsK e all s i).2]⟩
def xa44 (e all : LP) (s : MI × LP) : List (List Nat × Ex) := [([8, 9], ⟨0, Unit, fun _ => True, fun _ => ⟨(dd 8 ++ .sl P2 all :: .mp 0 :: dd 101), [oM (rsK e all s all.length).1]⟩⟩)]
def ha44 (e all : LP) (s : MI × LP) : Hint := ⟨chk 0 [1, 8, 9, 10, 11] (fun i => i ≤ (rsK e all s i).2.length) (sa44 e all s), (xa44 e all s).map (·.2)⟩
def sb44 (e all : LP) (i : Nat) (s : MI × LP) (k : Nat) : St := ⟨(.dead :: .sl P2 e :: dd 6 ++ .sl P2 all :: .mp 0 :: .own 1 0 :: .int .i64 i :: .int .i64 k :: dd 98), [oM ((all.take k).foldl (stK e i) s).1, .sc 0 52 P2 ((all.take k).foldl (stK e i) s).2]⟩
def xb44 (e all : LP) (i : Nat) (s : MI × LP) : List (List Nat × Ex) := [([1, 8, 9, 10, 11], ⟨2, Unit, fun _ => True, fun _ => ⟨(.dead :: .sl P2 e :: dd 6 ++ .sl P2 all :: .mp 0 :: .own 1 0 :: .int .i64 i :: dd 99), [oM (all.foldl (stK e i) s).1, .sc 0 52 P2 (all.foldl (stK e i) s).2]⟩⟩)]
def hb44 (e all : LP) (i : Nat) (s : MI × LP) : Hint := ⟨chk 0 [1, 8, 9, 10, 11, 12] (fun k => k ≤ all.length) (sb44 e all i s), (xb44 e all i s).map (·.2)⟩
theorem loop44b (e all : LP) (he : e.length < 1000000000000000) (hal : all.length ≤ 49) (i : Nat) (s : MI × LP) (ho : okK all s) (hi : i < s.2.length) (R : Exit → St → Prop) : LoopOK X44 L44_2 (hb44 e all i s) R := by
 refine loop_ok (X_ok _) (H := fun _ _ => none) [1, 8, 9, 10, 11, 12] (fun k => k ≤ all.length) (sb44 e all i s) (fun k => all.length - k) (xb44 e all i s) 250 fun (k : Nat) hk => ?_
 refine of_eq (q := (fun (m : Int) => (fun (l : Int) => (fun (j : Nat) => (fun (h : Int) => (fun (g : Prop) => (fun (f : Prop) => (fun (b : Int × Int) => (fun (a : MI × LP) => (fun (p : LP) => (fun (o : Bool) => (fun (d : Int × Int) => (fun (n : Int) => (fun (c : Prop) => f ∧ f ∧ f ∧ f ∧ ((k : Int) < (↑(List.length all) : Int) → f ∧ f ∧ f ∧ g ∧ f ∧ f ∧ f ∧ f ∧ f ∧ f ∧ f ∧ f ∧ f ∧ f ∧ (o = true → f ∧ f ∧ f ∧ idxPre h (List.length p) ∧ f ∧ f ∧ f ∧ g ∧ f ∧ List.length e + 1 ≤ 1000000000000000 ∧ f ∧ (frB e d b = true → f ∧ f ∧ f ∧ g ∧ f ∧ f ∧ f ∧ f ∧ idxPre h (List.length p) ∧ f ∧ f ∧ inR .i64 n ∧ f ∧ f ∧ f ∧ f ∧ g ∧ f ∧ f ∧ sumPre (List.length p) [b].length (nat_lit 16) ∧ f ∧ f ∧ inR .i64 l ∧ f ∧ ∃ (y : Nat), (y ≤ j ∧ j - y < j - k) ∧ (e = e ∧ all = all ∧ f ∧ f ∧ h = h ∧ l = (y : Int) ∧ f) ∧ mPut P2 a.fst b n = (List.foldl (stK e i) s (List.take y all)).fst ∧ p ++ [b] = (List.foldl (stK e i) s (List.take y all)).snd ∧ f) ∧ (frB e d b = false → c)) ∧ (o = false → f ∧ c)) ∧ (¬(k : Int) < (↑(List.length all) : Int) → ∃ (y : Unit), f ∧ (e = e ∧ all = all ∧ f ∧ f ∧ h = h ∧ f) ∧ a.fst = (List.foldl (stK e i) s all).fst ∧ p = (List.foldl (stK e i) s all).snd ∧ f)) (f ∧ inR .i64 l ∧ f ∧ ∃ (y : Nat), (y ≤ j ∧ j - y < j - k) ∧ (e = e ∧ all = all ∧ f ∧ f ∧ h = h ∧ l = (y : Int) ∧ f) ∧ a.fst = (List.foldl (stK e i) s (List.take y all)).fst ∧ p = (List.foldl (stK e i) s (List.take y all)).snd ∧ f)) ((mGet P2 a.fst d).getD m + 1)) (((List.getD p i (m, m)).fst, (List.getD p i (m, m)).snd))) (!(mGet P2 a.fst b).isSome)) (a.snd)) (List.foldl (stK e i) s (List.take k all))) (((List.getD all k (m, m)).fst, (List.getD all k (m, m)).snd))) (True)) (idxPre (k : Int) (List.length all))) ((i : Int))) (List.length all)) ((k : Int) + 1)) ((0 : Int))) (by kernel_rfl) ?_
 simp only [zz]
 have h0 := fdK_ok (e := e) (i := i) (l := all.take k) ho hi fun y hy => List.mem_of_mem_take hy
 refine ⟨fun h1 => ?_, fun h1 => by rw [List.take_of_length_le (by omega)]; exact ⟨rfl, rfl⟩⟩
 have h1 : k < all.length := by omega
 have hst : (all.take (k + 1)).foldl (stK e i) s = stK e i ((all.take k).foldl (stK e i) s) (all.getD k (0, 0)) := by
   rw [take_getD (d := (0, 0)) h1, List.foldl_append]; try rfl
 generalize hs' : (all.take k).foldl (stK e i) s = s' at *
 obtain ⟨o1, o2⟩ := h0
 have hlen := nodup_le o1.nd o1.inn
 have hi2 : i < s'.2.length := by omega
 have hval : 0 ≤ (mGet P2 s'.1 (s'.2.getD i (0, 0))).getD 0 ∧ (mGet P2 s'.1 (s'.2.getD i (0, 0))).getD 0 < 100 := by
   obtain ⟨v, hv⟩ := Option.isSome_iff_exists.mp ((o1.dom _).mpr (mem_getD (d := (0, 0)) hi2))
   have := o1.val _ _ hv
   rw [hv, Option.getD_some]
   omega
 have ik := idx_nat h1
 have ii := idx_nat hi2
 have sk : ¬ ((mGet P2 s'.1 (all.getD k (0, 0))).isSome = false ∧ frB e (s'.2.getD i (0, 0)) (all.getD k (0, 0)) = true) → inR .i64 ((k : Int) + 1) ∧ ∃ y : Nat, (y ≤ all.length ∧ all.length - y < all.length - k) ∧ (k : Int) + 1 = y ∧ s'.1 = ((all.take y).foldl (stK e i) s).1 ∧ s'.2 = ((all.take y).foldl (stK e i) s).2 := fun hc =>
   ⟨in1 (by omega), k + 1, ⟨by omega, by omega⟩, by omega, by rw [hst, stK, if_neg hc], by rw [hst, stK, if_neg hc]⟩
 refine ⟨ik, fun h2 => ⟨ii, ik, by omega, fun h3 => ?_, fun h3 => sk fun hc => ?_⟩, fun h2 => sk fun hc => ?_⟩
 · have hc : (mGet P2 s'.1 (all.getD k (0, 0))).isSome = false ∧ frB e (s'.2.getD i (0, 0)) (all.getD k (0, 0)) = true := ⟨nt1 h2, h3⟩
   refine ⟨ik, ii, ?_, ik, by unfold sumPre; simp; omega, in1 (by omega), k + 1, ⟨by omega, by omega⟩, by omega, ?_⟩
   · have e3 : ∀ v : Int, 0 ≤ v ∧ v < 100 → inR .i64 (v + 1) := fun v hv => by simp only [inR]; omega
     exact e3 _ hval
   · rw [hst, stK, if_pos hc]; exact ⟨rfl, rfl⟩
 · have h3 : frB e (s'.2.getD i (0, 0)) (all.getD k (0, 0)) = false := h3
   rw [hc.2] at h3; cases h3
 · have h2 : (mGet P2 s'.1 (all.getD k (0, 0))).isSome = true := nt0 h2
   rw [hc.1] at h2; cases h2
theorem loop44a (e all : LP) (he : e.length < 1000000000000000) (hal : all.length ≤ 49) (s : MI × LP) (ho : okK all s) (R : Exit → St → Prop) : LoopOK X44 L44_0 (ha44 e all s) R := by
 refine loop_ok (X_ok _) (H := fun i _ => some (hb44 e all i (rsK e all s i))) [1, 8, 9, 10, 11] (fun i => i ≤ (rsK e all s i).2.length) (sa44 e all s) (fun i => all.length - i) (xa44 e all s) 250 fun (i : Nat) hi => ?_
 have hL := fun h R => loop44b e all he hal i (rsK e all s i) (rsK_ok ho i) h R
 refine of_eq (q := (fun (c : Prop) => (fun (b : Int) => (fun (a : MI × LP) => c ∧ c ∧ c ∧ c ∧ (b < (↑(List.length a.snd) : Int) → c ∧ LoopOK X44 L44_2 (hb44 e all i a) (bodyR (X [e57, e43]).m0 (xa44 e all s) R) ∧ (∃ (y : Nat), y ≤ List.length all ∧ (e = e ∧ all = all ∧ c ∧ c ∧ b = b ∧ (0 : Int) = (y : Int) ∧ c) ∧ a.fst = (List.foldl (stK e i) a (List.take y all)).fst ∧ a.snd = (List.foldl (stK e i) a (List.take y all)).snd ∧ c) ∧ (∀ (y : Unit), c → c ∧ inR .i64 (b + 1) ∧ c ∧ ∃ (y : Nat), (y ≤ List.length (rsK e all s y).snd ∧ List.length all - y < List.length all - i) ∧ (e = e ∧ all = all ∧ c ∧ c ∧ b + 1 = (y : Int) ∧ c) ∧ (List.foldl (stK e i) a all).fst = (rsK e all s y).fst ∧ (List.foldl (stK e i) a all).snd = (rsK e all s y).snd ∧ c) ∧ c) ∧ (¬b < (↑(List.length a.snd) : Int) → ∃ (y : Unit), c ∧ (all = all ∧ c ∧ c) ∧ a.fst = (rsK e all s (List.length all)).fst ∧ c)) (rsK e all s i)) ((i : Int))) (True)) (by kernel_rfl) ?_
 simp only [zz]
 have ho' := rsK_ok (e := e) ho i
 have hlen := nodup_le ho'.nd ho'.inn
 have h3 := rsK_len (e := e) ho i
 refine ⟨fun h1 => ?_, fun h1 => ?_⟩
 · have h1 : i < (rsK e all s i).2.length := by omega
   have hst : rsK e all s (i + 1) = all.foldl (stK e i) (rsK e all s i) := by rw [rsK, if_pos h1]
   exact ⟨hL h1 _, ⟨0, Nat.zero_le _, rfl, rfl, rfl⟩, fun _ _ => ⟨in1 (by omega), i + 1, ⟨by omega, by omega⟩, by omega, by rw [hst], by rw [hst]⟩⟩
 · have := rsK_stop (e := e) (all := all) (s := s) (k := i) (by omega) (all.length - i)
   rw [show i + (all.length - i) = all.length by omega] at this
   rw [this]
def inM (M : MI) (y : PA) : Bool := (mGet P2 M y).isSome
def vlM (M : MI) (y : PA) : Int := (mGet P2 M y).getD 0
def outF (M : MI) (l : LP) : LP := l.filter (inM M)
def farF (M : MI) (l : LP) : List Int := (outF M l).map (vlM M)
theorem outF_step {M : MI} {l : LP} {k : Nat} (h : k < l.length) : outF M (l.take (k + 1)) = if inM M (l.getD k (0, 0)) = true then outF M (l.take k) ++ [l.getD k (0, 0)] else outF M (l.take k) := by
 unfold outF
 rw [take_getD (d := (0, 0)) h, List.filter_append]
 cases hq : inM M (l.getD k (0, 0)) with
 | true => rw [if_pos rfl]; simp only [List.filter_cons, hq, List.filter_nil, if_true]
 | false => rw [if_neg (by decide)]; simp only [List.filter_cons, hq, List.filter_nil, Bool.false_eq_true, if_false, List.append_nil]
theorem outF_len (M : MI) (l : LP) : (outF M l).length ≤ l.length := List.length_filter_le _ _
def sz44 (all : LP) (M : MI) (k : Nat) : St := ⟨(dd 8 ++ .sl P2 all :: .mp 0 :: dd 5 ++ nl :: nl :: .int .i64 k :: dd 93), [oM M]⟩
def st44 (all : LP) (M : MI) (k : Nat) : St := ⟨(dd 8 ++ .sl P2 all :: .mp 0 :: dd 5 ++ .own 1 0 :: .own 2 0 :: .int .i64 k :: dd 93), [oM M, .sc 0 52 P2 (outF M (all.take k)), .sc 0 3 I64 (farF M (all.take k))]⟩
def fc44 (all : LP) (M : MI) : List Fam := [⟨Nat, fun k => k ≤ all.length ∧ outF M (all.take k) = [], sz44 all M, fun k => all.length - k, fun _ _ => none⟩, ⟨Nat, fun k => k ≤ all.length, st44 all M, fun k => all.length - k, fun _ _ => none⟩]
def xc44 (all : LP) (M : MI) : List (List Nat × Ex) := [([15, 16], ⟨4, Unit, fun _ => outF M all = [], fun _ => ⟨(dd 15 ++ nl :: nl :: dd 94), []⟩⟩), ([15, 16], ⟨4, Unit, fun _ => True, fun _ => ⟨(dd 15 ++ .own 0 0 :: .own 1 0 :: dd 94), [.sc 0 52 P2 (outF M all), .sc 0 3 I64 (farF M all)]⟩⟩)]
def hc44 (all : LP) (M : MI) : Hint := ⟨chks 0 [8, 9, 15, 16, 17] (fc44 all M), (xc44 all M).map (·.2)⟩
theorem loop44c (all : LP) (M : MI) (hal : all.length ≤ 49) (R : Exit → St → Prop) : LoopOK X44 L44_4 (hc44 all M) R := by
 refine loop_fams (X_ok _) [8, 9, 15, 16, 17] (fc44 all M) (xc44 all M) 250 ⟨fun (k : Nat) hk => ?_, fun (k : Nat) hk => ?_, trivial⟩
 · refine of_eq (q := (fun (g : Int) => (fun (f : Int) => (fun (d : Int) => (fun (c : Prop) => (fun (b : Nat) => (fun (a : Int × Int) => (fun (e : Option Int) => c ∧ c ∧ c ∧ c ∧ (f < (↑(List.length all) : Int) → c ∧ c ∧ c ∧ idxPre f (List.length all) ∧ c ∧ c ∧ c ∧ c ∧ c ∧ c ∧ c ∧ c ∧ (e.isSome = true → c ∧ c ∧ c ∧ idxPre f (List.length all) ∧ c ∧ c ∧ sumPre (0 : Nat) [a].length (nat_lit 16) ∧ c ∧ c ∧ c ∧ c ∧ sumPre (0 : Nat) [e.getD g].length (nat_lit 8) ∧ c ∧ c ∧ inR .i64 d ∧ c ∧ ((∃ (y : Nat), ((y ≤ b ∧ outF M (List.take y all) = []) ∧ b - y < b - k) ∧ (all = all ∧ c ∧ False ∧ False ∧ d = (y : Int) ∧ c) ∧ M = M ∧ c) ∨ ∃ (y : Nat), (y ≤ b ∧ b - y < b - k) ∧ (all = all ∧ c ∧ c ∧ c ∧ d = (y : Int) ∧ c) ∧ M = M ∧ [a] = outF M (List.take y all) ∧ [e.getD g] = farF M (List.take y all) ∧ c)) ∧ (e.isSome = false → c ∧ inR .i64 d ∧ c ∧ ((∃ (y : Nat), ((y ≤ b ∧ outF M (List.take y all) = []) ∧ b - y < b - k) ∧ (all = all ∧ c ∧ c ∧ c ∧ d = (y : Int) ∧ c) ∧ M = M ∧ c) ∨ ∃ (y : Nat), (y ≤ b ∧ b - y < b - k) ∧ (all = all ∧ c ∧ False ∧ False ∧ d = (y : Int) ∧ c) ∧ M = M ∧ False))) ∧ (¬f < (↑(List.length all) : Int) → (∃ (y : Unit), outF M all = [] ∧ (c ∧ c ∧ c) ∧ c) ∨ ∃ (y : Unit), c ∧ (False ∧ False ∧ c) ∧ False)) (mGet P2 M a)) (((List.getD all k (g, g)).fst, (List.getD all k (g, g)).snd))) (List.length all)) (True)) (f + 1)) ((k : Int))) ((0 : Int))) (by kernel_rfl) ?_
   simp only [zz]
   obtain ⟨k1, k2⟩ := hk
   refine ⟨fun h1 => ?_, fun h1 => by rwa [List.take_of_length_le (by omega)] at k2⟩
   have h1 : k < all.length := by omega
   have hst := outF_step (M := M) h1
   have ik := idx_nat h1
   refine ⟨ik, fun (h2 : inM M (all.getD k (0, 0)) = true) => ⟨ik, by simp [sumPre], by simp [sumPre], in1 (by omega), k + 1, ⟨by omega, by omega⟩, by omega, ?_, ?_⟩, fun (h2 : inM M (all.getD k (0, 0)) = false) => ⟨in1 (by omega), k + 1, ⟨⟨by omega, by rw [hst, if_neg (by rw [h2]; decide), k2]⟩, by omega⟩, by omega⟩⟩
   · rw [hst, if_pos h2, k2]; try rfl
   · unfold farF
     rw [hst, if_pos h2, k2]; try rfl
 · refine of_eq (q := (fun (j : Int) => (fun (i : Int) => (fun (g : LP) => (fun (f : List Int) => (fun (e : Int) => (fun (d : Nat) => (fun (c : Prop) => (fun (b : Prop) => (fun (a : Int × Int) => (fun (h : Option Int) => c ∧ c ∧ c ∧ c ∧ (i < (↑(List.length all) : Int) → c ∧ c ∧ c ∧ idxPre i (List.length all) ∧ c ∧ c ∧ c ∧ c ∧ c ∧ c ∧ c ∧ c ∧ (h.isSome = true → c ∧ c ∧ c ∧ idxPre i (List.length all) ∧ c ∧ c ∧ sumPre (List.length g) [a].length (nat_lit 16) ∧ c ∧ c ∧ c ∧ c ∧ sumPre f.length [h.getD j].length (nat_lit 8) ∧ c ∧ c ∧ inR .i64 e ∧ c ∧ (b ∨ ∃ (y : Nat), (y ≤ d ∧ d - y < d - k) ∧ (all = all ∧ c ∧ c ∧ c ∧ e = (y : Int) ∧ c) ∧ M = M ∧ g ++ [a] = outF M (List.take y all) ∧ f ++ [h.getD j] = farF M (List.take y all) ∧ c)) ∧ (h.isSome = false → c ∧ inR .i64 e ∧ c ∧ (b ∨ ∃ (y : Nat), (y ≤ d ∧ d - y < d - k) ∧ (all = all ∧ c ∧ c ∧ c ∧ e = (y : Int) ∧ c) ∧ M = M ∧ g = outF M (List.take y all) ∧ f = farF M (List.take y all) ∧ c))) ∧ (¬i < (↑(List.length all) : Int) → (∃ (y : Unit), outF M all = [] ∧ (False ∧ False ∧ c) ∧ c) ∨ ∃ (y : Unit), c ∧ (c ∧ c ∧ c) ∧ g = outF M all ∧ f = farF M all ∧ c)) (mGet P2 M a)) (((List.getD all k (j, j)).fst, (List.getD all k (j, j)).snd))) (∃ (y : Nat), ((y ≤ d ∧ outF M (List.take y all) = []) ∧ d - y < d - k) ∧ (all = all ∧ c ∧ False ∧ False ∧ e = (y : Int) ∧ c) ∧ M = M ∧ c)) (True)) (List.length all)) (i + 1)) (farF M (List.take k all))) (outF M (List.take k all))) ((k : Int))) ((0 : Int))) (by kernel_rfl) ?_
   simp only [zz]
   have k1 : k ≤ all.length := hk
   refine ⟨fun h1 => ?_, fun h1 => by rw [List.take_of_length_le (by omega)]; exact ⟨rfl, rfl⟩⟩
   have h1 : k < all.length := by omega
   have hst := outF_step (M := M) h1
   have ik := idx_nat h1
   have l1 := outF_len M (all.take k)
   rw [List.length_take] at l1
   have l2 : (farF M (all.take k)).length = (outF M (all.take k)).length := by unfold farF; rw [List.length_map]
   refine ⟨ik, fun (h2 : inM M (all.getD k (0, 0)) = true) => ⟨ik, by unfold sumPre; simp; omega, by unfold sumPre; rw [l2]; simp; omega, in1 (by omega), k + 1, ⟨by omega, by omega⟩, by omega, ?_, ?_⟩, fun (h2 : inM M (all.getD k (0, 0)) = false) => ⟨in1 (by omega), k + 1, ⟨by omega, by omega⟩, by omega, by rw [hst, if_neg (by rw [h2]; decide)], by unfold farF; rw [hst, if_neg (by rw [h2]; decide)]⟩⟩
   · rw [hst, if_pos h2] <;> rfl
   · unfold farF
     rw [hst, if_pos h2, List.map_append] <;> rfl
/-- The class of an arrow, and the steps. -/
def rclL (n : Nat) (e : LP) (x : PA) : LP := outF (clK e (L62 n (jr e)) x).1 (L62 n (jr e))
def rclF (n : Nat) (e : LP) (x : PA) : List Int := farF (clK e (L62 n (jr e)) x).1 (L62 n (jr e))
theorem call44 (n : Nat) (hn : n ≤ 7) (e : LP) (x : PA) (he : e.length < 1000000000000000) (hx : x ∈ L62 n (jr e)) : GCall Try.prog gl 44 true [.int .i64 n, .sl P2 e, pa x.1 x.2] [] [.sl P2 (rclL n e x), .sl I64 (rclF n e x)] [] := by
 refine gcall_of (X := X44) ((X_ok _)) (f := 44) (fn := Try.f44) (c := bodyOf Try.f44) (by kernel_rfl) (by kernel_rfl) (view := true) (rvs := [.tmp 6, .tmp 7]) (by kernel_rfl) (H := (fun id => if id = 0 then some (ha44 e (L62 n (jr e)) (sK0 x)) else some (hc44 (L62 n (jr e)) (clK e (L62 n (jr e)) x).1))) 150 (by kernel_rfl) ?_
 have hlen : (L62 n (jr e)).length ≤ 49 := prK_len _ 7 49
 have hL := fun R => loop44a e (L62 n (jr e)) he hlen (sK0 x) (sK0_ok hx) R
 have hM := fun R => loop44c (L62 n (jr e)) (clK e (L62 n (jr e)) x).1 hlen R
 refine of_eq (q := (fun (h : Int) => (fun (g : List ResultVar) => (fun (d : List AV) => (fun (b : Prop) => (fun (a : LP) => (fun (c : MI) => (fun (f : Prop) => b ∧ b ∧ b ∧ b ∧ b ∧ (((h ≤ (n : Int) ∧ (n : Int) ≤ 7) ∧ List.length e < 1000000000000000) ∧ b) ∧ b ∧ b ∧ b ∧ b ∧ b ∧ b ∧ b ∧ b ∧ b ∧ b ∧ LoopOK X44 L44_0 (ha44 e a (sK0 x)) (RetR X44 true true g d []) ∧ (∃ (y : Nat), y ≤ List.length (rsK e a (sK0 x) y).snd ∧ (e = e ∧ a = a ∧ b ∧ b ∧ h = (y : Int) ∧ b) ∧ mPut (Ty.int .i64).a2 [] (x.fst, x.snd) h = (rsK e a (sK0 x) y).fst ∧ [(x.fst, x.snd)] = (rsK e a (sK0 x) y).snd ∧ b) ∧ (∀ (y : Unit), b → b ∧ b ∧ b ∧ LoopOK X44 L44_4 (hc44 a c) (RetR X44 true true g d []) ∧ ((∃ (y : Nat), (y ≤ List.length a ∧ outF c (List.take y a) = []) ∧ (a = a ∧ b ∧ b ∧ b ∧ h = (y : Int) ∧ b) ∧ f ∧ b) ∨ ∃ (y : Nat), y ≤ List.length a ∧ (a = a ∧ b ∧ False ∧ False ∧ h = (y : Int) ∧ b) ∧ f ∧ False) ∧ (∀ (y : Unit), outF c a = [] → b ∧ b ∧ b ∧ b ∧ b ∧ (([] : List (Int × Int)) = rclL n e x ∧ ([] : List Int) = rclF n e x ∧ b) ∧ b) ∧ (∀ (y : Unit), b → b ∧ b ∧ b ∧ b ∧ b ∧ (outF c a = rclL n e x ∧ farF c a = rclF n e x ∧ b) ∧ b) ∧ b) ∧ b) ((rsK e a (sK0 x) (List.length a)).fst = c)) ((clK e a x).fst)) (L62 n (jr e))) (True)) ([AV.sl P2 (rclL n e x), AV.sl I64 (rclF n e x)])) ([ResultVar.tmp (6 : Tmp), ResultVar.tmp (7 : Tmp)])) ((0 : Int))) (by kernel_rfl) ?_
 simp only [zz]
 exact ⟨⟨⟨by omega, by omega⟩, he⟩, hL _, ⟨0, Nat.zero_le _, rfl, rfl, rfl⟩, fun _ _ => ⟨hM _, ⟨0, ⟨Nat.zero_le _, rfl⟩, rfl, rfl⟩, fun _ h => ⟨h.symm, by show [] = farF _ _; unfold farF; rw [h]; rfl⟩, fun _ _ => ⟨rfl, rfl⟩⟩⟩
end Go.Am.Or

/- Orders: the reference: a clash with the fewest arrows. -/
namespace Go.Am.Or
open Go Go.Am Go.Proofs
def e44 : Entry Try.prog gl := entry3 44 ⟨Try.f44, by kernel_rfl, by kernel_rfl, by kernel_rfl⟩ I64 SP P2 (fun (n : Int) e x => ((0 ≤ n ∧ n ≤ 7) ∧ (e : LP).length < 1000000000000000) ∧ (x : PA) ∈ L62 n.toNat (jr e)) true (fun (n : Int) e x => [.sl P2 (rclL n.toNat e x), .sl I64 (rclF n.toNat e x)]) (fun _ _ _ => []) (fun (n : Int) e x h => by
 have := call44 n.toNat (by omega) e x h.1.2 h.2
 rwa [Int.toNat_of_nonneg h.1.1.1] at this)
structure rclO (c : LP) (fr : List Int) : Prop where
 hl : fr.length = c.length
 hc : c.length ≤ 49
 hv : ∀ i, i < c.length → 0 ≤ fr.getD i 0 ∧ fr.getD i 0 < 100
theorem clK_ok {e all : LP} {x : PA} (h : x ∈ all) : okK all (clK e all x) := rsK_ok (sK0_ok h) _
theorem rcl_ok {n : Nat} {e : LP} {x : PA} (hx : x ∈ L62 n (jr e)) : rclO (rclL n e x) (rclF n e x) := by
 have hlen : (L62 n (jr e)).length ≤ 49 := prK_len _ 7 49
 have h := clK_ok (e := e) hx
 have hle := nodup_le h.nd h.inn
 have hol := outF_len (clK e (L62 n (jr e)) x).1 (L62 n (jr e))
 refine ⟨by unfold rclF rclL farF; rw [List.length_map], by unfold rclL; omega, fun i hi => ?_⟩
 unfold rclL at hi
 unfold rclF farF
 rw [getD_lt (by rw [List.length_map]; exact hi), List.getElem_map]
 have hm : (outF (clK e (L62 n (jr e)) x).1 (L62 n (jr e)))[i] ∈ outF (clK e (L62 n (jr e)) x).1 (L62 n (jr e)) := List.getElem_mem hi
 have := (List.mem_filter.mp hm).2
 unfold inM at this
 obtain ⟨v, hv⟩ := Option.isSome_iff_exists.mp this
 have hb := h.val _ _ hv
 unfold vlM
 rw [hv, Option.getD_some]
 omega
def rckI (c : LP) (fr : List Int) (y : PA) (b : Int) : Nat → Int
 | 0 => b
 | i + 1 => if c.getD i (0, 0) = y ∧ (rckI c fr y b i = 0 ∨ fr.getD i 0 + 1 < rckI c fr y b i) then fr.getD i 0 + 1 else rckI c fr y b i
def rckK (n : Nat) (e : LP) (L : LP) : Nat → Int
 | 0 => 0
 | k + 1 => rckI (rclL n e (L.getD k (0, 0))) (rclF n e (L.getD k (0, 0))) (tn (L.getD k (0, 0))) (rckK n e L k) (rclL n e (L.getD k (0, 0))).length
noncomputable def L15_0 : Code := lp (bodyOf Try.f15) 0
noncomputable def L15_2 : Code := lp (bodyOf Try.f15) 2
noncomputable abbrev X15 : Cy := X [e57, e44]
def sa15 (n : Nat) (e L : LP) (k : Nat) : St := ⟨(.int .i64 n :: .sl P2 e :: dd 3 ++ .sl P2 L :: .int .i64 (rckK n e L k) :: .int .i64 k :: dd 63), []⟩
def xa15 (n : Nat) (e L : LP) : List (List Nat × Ex) := [([6], ⟨0, Unit, fun _ => True, fun _ => ⟨(dd 6 ++ .int .i64 (rckK n e L L.length) :: dd 64), []⟩⟩)]
def ha15 (n : Nat) (e L : LP) : Hint := ⟨chk 0 [0, 1, 5, 6, 7] (fun k => k ≤ L.length) (sa15 n e L), (xa15 n e L).map (·.2)⟩
def sb15 (n : Nat) (e L : LP) (k : Nat) (c : LP) (fr : List Int) (b : Int) (i : Nat) : St := ⟨(.int .i64 n :: .sl P2 e :: dd 3 ++ .sl P2 L :: .int .i64 (rckI c fr (tn (L.getD k (0, 0))) b i) :: .int .i64 k :: .sl P2 c :: .sl I64 fr :: .int .i64 i :: dd 60), []⟩
def xb15 (n : Nat) (e L : LP) (k : Nat) (c : LP) (fr : List Int) (b : Int) : List (List Nat × Ex) := [([0, 1, 5, 6, 7], ⟨2, Unit, fun _ => True, fun _ => ⟨(.int .i64 n :: .sl P2 e :: dd 3 ++ .sl P2 L :: .int .i64 (rckI c fr (tn (L.getD k (0, 0))) b c.length) :: .int .i64 k :: dd 63), []⟩⟩)]
def hb15 (n : Nat) (e L : LP) (k : Nat) (c : LP) (fr : List Int) (b : Int) : Hint := ⟨chk 0 [0, 1, 5, 6, 7, 8, 9, 10] (fun i => i ≤ c.length) (sb15 n e L k c fr b), (xb15 n e L k c fr b).map (·.2)⟩
theorem loop15b (n : Nat) (e L : LP) (k : Nat) (hk : k < L.length) (c : LP) (fr : List Int) (b : Int) (ho : rclO c fr) (R : Exit → St → Prop) : LoopOK X15 L15_2 (hb15 n e L k c fr b) R := by
 refine loop_ok (X_ok _) (H := fun _ _ => none) [0, 1, 5, 6, 7, 8, 9, 10] (fun i => i ≤ c.length) (sb15 n e L k c fr b) (fun i => c.length - i) (xb15 n e L k c fr b) 250 fun (i : Nat) hi => ?_
 refine of_eq (q := (fun (r : Int) => (fun (q : Nat) => (fun (p : Int) => (fun (m : Int) => (fun (s : Int) => (fun (h : Prop) => (fun (g : Int) => (fun (o : Int) => (fun (l : Prop) => (fun (d : PA) => (fun (j : Int) => (fun (f : Prop) => (fun (a : Prop) => h ∧ h ∧ h ∧ h ∧ (m < (↑(List.length c) : Int) → h ∧ h ∧ idxPre m (List.length c) ∧ h ∧ h ∧ h ∧ idxPre p (List.length L) ∧ idxPre (1 : Int) (2 : Nat) ∧ h ∧ h ∧ h ∧ idxPre p (List.length L) ∧ idxPre g (2 : Nat) ∧ h ∧ h ∧ h ∧ h ∧ (l → h ∧ h ∧ h ∧ (j = g → h ∧ h ∧ a) ∧ (¬j = g → h ∧ h ∧ idxPre m fr.length ∧ h ∧ inR .i64 o ∧ h ∧ h ∧ h ∧ h ∧ (o < j → a) ∧ (¬o < j → f))) ∧ (¬l → h ∧ f)) ∧ (¬m < (↑(List.length c) : Int) → ∃ (y : Unit), h ∧ (r = r ∧ e = e ∧ L = L ∧ j = rckI c fr d b q ∧ p = p ∧ h) ∧ h)) (h ∧ h ∧ idxPre m fr.length ∧ h ∧ inR .i64 o ∧ h ∧ h ∧ inR .i64 s ∧ h ∧ ∃ (y : Nat), (y ≤ q ∧ q - y < q - i) ∧ (r = r ∧ e = e ∧ L = L ∧ o = rckI c fr d b y ∧ p = p ∧ c = c ∧ fr = fr ∧ s = (y : Int) ∧ h) ∧ h)) (h ∧ inR .i64 s ∧ h ∧ ∃ (y : Nat), (y ≤ q ∧ q - y < q - i) ∧ (r = r ∧ e = e ∧ L = L ∧ j = rckI c fr d b y ∧ p = p ∧ c = c ∧ fr = fr ∧ s = (y : Int) ∧ h) ∧ h)) (rckI c fr d b i)) (tn (List.getD L k (g, g)))) (((List.getD c i (g, g)).fst, (List.getD c i (g, g)).snd) = ((List.getD L k (g, g)).snd, (List.getD L k (g, g)).fst))) (fr.getD i g + 1)) ((0 : Int))) (True)) (m + 1)) ((i : Int))) ((k : Int))) (List.length c)) ((n : Int))) (by kernel_rfl) ?_
 simp only [zz]
 have hc := ho.hc
 have hfl := ho.hl
 refine ⟨fun h1 => ?_, fun h1 => by rw [show i = c.length by omega]⟩
 have h1 : i < c.length := by omega
 have hv := ho.hv i h1
 have ii := idx_nat h1
 have ik := idx_nat hk
 have fi : idxPre (i : Int) fr.length := by rw [hfl]; exact ii
 have iv : inR .i64 (fr.getD i 0 + 1) := by simp only [inR]; omega
 have hst : rckI c fr (tn (L.getD k (0, 0))) b (i + 1) = if c.getD i (0, 0) = tn (L.getD k (0, 0)) ∧ (rckI c fr (tn (L.getD k (0, 0))) b i = 0 ∨ fr.getD i 0 + 1 < rckI c fr (tn (L.getD k (0, 0))) b i) then fr.getD i 0 + 1 else rckI c fr (tn (L.getD k (0, 0))) b i := rfl
 have nx : ∀ v : Int, v = rckI c fr (tn (L.getD k (0, 0))) b (i + 1) → inR .i64 ((i : Int) + 1) ∧ ∃ y : Nat, (y ≤ c.length ∧ c.length - y < c.length - i) ∧ v = rckI c fr (tn (L.getD k (0, 0))) b y ∧ (i : Int) + 1 = y := fun v hv => ⟨in1 (by omega), i + 1, ⟨by omega, by omega⟩, hv, by omega⟩
 refine ⟨ii, ik, i12, ik, i02, fun (h2 : c.getD i (0, 0) = tn (L.getD k (0, 0))) => ⟨fun h3 => ⟨fi, iv, nx _ ?_⟩, fun h3 => ⟨fi, iv, fun h4 => ⟨fi, iv, nx _ ?_⟩, fun h4 => nx _ ?_⟩⟩, fun (h2 : ¬ c.getD i (0, 0) = tn (L.getD k (0, 0))) => nx _ ?_⟩
 · rw [hst, if_pos ⟨h2, .inl h3⟩]
 · rw [hst, if_pos ⟨h2, .inr h4⟩]
 · rw [hst, if_neg fun h => h.2.elim h3 h4]
 · rw [hst, if_neg fun h => h2 h.1]
theorem loop15a (n : Nat) (hn : n ≤ 7) (e : LP) (he : e.length < 1000000000000000) (R : Exit → St → Prop) : LoopOK X15 L15_0 (ha15 n e (L62 n (jr e))) R := by
 refine loop_ok (X_ok _) (H := fun k _ => some (hb15 n e (L62 n (jr e)) k (rclL n e ((L62 n (jr e)).getD k (0, 0))) (rclF n e ((L62 n (jr e)).getD k (0, 0))) (rckK n e (L62 n (jr e)) k))) [0, 1, 5, 6, 7] (fun k => k ≤ (L62 n (jr e)).length) (sa15 n e (L62 n (jr e))) (fun k => (L62 n (jr e)).length - k) (xa15 n e (L62 n (jr e))) 250 fun (k : Nat) hk => ?_
 have hL := fun h1 h2 R => loop15b n e (L62 n (jr e)) k h1 (rclL n e ((L62 n (jr e)).getD k (0, 0))) (rclF n e ((L62 n (jr e)).getD k (0, 0))) (rckK n e (L62 n (jr e)) k) h2 R
 refine of_eq (q := (fun (l : Int) => (fun (i : Int) => (fun (h : Int) => (fun (g : Prop) => (fun (a : LP) => (fun (f : Int) => (fun (c : Int × Int) => (fun (b : Int × Int) => (fun (j : List Int) => (fun (d : LP) => g ∧ g ∧ g ∧ g ∧ (h < (↑(List.length a) : Int) → g ∧ g ∧ g ∧ g ∧ idxPre h (List.length a) ∧ g ∧ ((((l ≤ i ∧ i ≤ 7) ∧ List.length e < 1000000000000000) ∧ (c.fst, c.snd) ∈ a) ∧ g) ∧ g ∧ g ∧ g ∧ g ∧ g ∧ g ∧ LoopOK X15 L15_2 (hb15 n e a k d j f) (bodyR (X [e57, e44]).m0 (xa15 n e a) R) ∧ (∃ (y : Nat), y ≤ List.length d ∧ (i = i ∧ e = e ∧ a = a ∧ f = rckI d j (tn b) f y ∧ h = h ∧ rclL n e (c.fst, c.snd) = d ∧ rclF n e (c.fst, c.snd) = j ∧ l = (y : Int) ∧ g) ∧ g) ∧ (∀ (y : Unit), g → g ∧ inR .i64 (h + 1) ∧ g ∧ ∃ (y : Nat), (y ≤ List.length a ∧ List.length a - y < List.length a - k) ∧ (i = i ∧ e = e ∧ a = a ∧ rckI d j (tn b) f (List.length d) = rckK n e a y ∧ h + 1 = (y : Int) ∧ g) ∧ g) ∧ g) ∧ (¬h < (↑(List.length a) : Int) → ∃ (y : Unit), g ∧ (f = rckK n e a (List.length a) ∧ g) ∧ g)) (rclL n e b)) (rclF n e b)) (List.getD a k (l, l))) (List.getD a k (l, l))) (rckK n e a k)) (L62 n (jr e))) (True)) ((k : Int))) ((n : Int))) ((0 : Int))) (by kernel_rfl) ?_
 simp only [zz]
 have hlen : (L62 n (jr e)).length ≤ 49 := prK_len _ 7 49
 refine ⟨fun h1 => ?_, fun h1 => by rw [show k = (L62 n (jr e)).length by omega]⟩
 have h1 : k < (L62 n (jr e)).length := by omega
 have hm := mem_getD (d := (0, 0)) h1
 exact ⟨idx_nat h1, ⟨⟨⟨by omega, by omega⟩, he⟩, hm⟩, hL h1 (rcl_ok hm) _, ⟨0, Nat.zero_le _, rfl, rfl⟩, fun _ _ => ⟨in1 (by omega), k + 1, ⟨by omega, by omega⟩, rfl, by omega⟩⟩
theorem call15 (n : Nat) (hn : n ≤ 7) (e : LP) (he : e.length < 1000000000000000) : GCall Try.prog gl 15 true [.int .i64 n, .sl P2 e] [] [.int .i64 (rckK n e (L62 n (jr e)) (L62 n (jr e)).length)] [] := by
 refine gcall_of (X := X15) ((X_ok _)) (f := 15) (fn := Try.f15) (c := bodyOf Try.f15) (by kernel_rfl) (by kernel_rfl) (view := false) (rvs := [.tmp 4]) (by kernel_rfl) (H := (fun _ => some (ha15 n e (L62 n (jr e))))) 150 (by kernel_rfl) ?_
 have hL := fun R => loop15a n hn e he R
 refine of_eq (q := (fun (c : Prop) => (fun (a : LP) => (fun (b : Int) => c ∧ c ∧ c ∧ ((((0 : Int) ≤ (n : Int) ∧ (n : Int) ≤ 7) ∧ List.length e < 1000000000000000) ∧ c) ∧ c ∧ c ∧ c ∧ LoopOK X15 L15_0 (ha15 n e a) (RetR X15 true false [ResultVar.tmp (4 : Tmp)] [AV.int .i64 b] []) ∧ (∃ (y : Nat), y ≤ List.length a ∧ ((n : Int) = (n : Int) ∧ e = e ∧ a = a ∧ (0 : Int) = rckK n e a y ∧ (0 : Int) = (y : Int) ∧ c) ∧ c) ∧ (∀ (y : Unit), c → c ∧ c ∧ c ∧ (b = b ∧ c) ∧ c) ∧ c) (rckK n e a (List.length a))) (L62 n (jr e))) (True)) (by kernel_rfl) ?_
 simp only [zz]
 exact ⟨⟨⟨by omega, by omega⟩, he⟩, hL _, ⟨0, Nat.zero_le _, rfl, rfl⟩, fun _ _ => trivial⟩
def rckN (n : Nat) (e : LP) : Int := rckK n e (L62 n (jr e)) (L62 n (jr e)).length
def e15 : Entry Try.prog gl := entry2 15 ⟨Try.f15, by kernel_rfl, by kernel_rfl, by kernel_rfl⟩ I64 SP (fun (n : Int) e => (0 ≤ n ∧ n ≤ 7) ∧ (e : LP).length < 1000000000000000) true (fun (n : Int) e => [.int .i64 (rckN n.toNat e)]) (fun _ _ => []) (fun (n : Int) e h => by have := call15 n.toNat (by omega) e h.2; rwa [Int.toNat_of_nonneg h.1.1] at this)
theorem jn_all {n : Nat} {e : LP} (he : grOk n e) (x y : Nat) : jnB e x y = eg e x y := by
 by_cases h : x = y
 · subst h
   rw [(gr_eg he).ir]
   unfold jnB hasB
   refine decide_eq_false fun hm => ?_
   have := he.at hm
   simp only [minI, maxI] at this
   split at this <;> omega
 · have := jr_eg he x y
   unfold jr at this
   rwa [decide_eq_false h, Bool.not_false, Bool.true_and] at this
/-- One step. -/
def St1 (f : RF) (a b c d : Nat) : Prop := (c = a ∧ f a d = true ∧ f b d = false) ∨ (d = b ∧ f c b = true ∧ f a c = false)
theorem St1.rc {f : RF} {a b c d : Nat} (h : St1 f a b c d) : Rc f a b c d := by
 rcases h with ⟨rfl, h2, h3⟩ | ⟨rfl, h2, h3⟩
 · exact .hd .refl h2 h3
 · exact .tl .refl h2 h3
theorem fr_iff {n : Nat} {e : LP} (he : grOk n e) {a b c d : Nat} (h : eg e c d = true) : frB e ((a : Int), (b : Int)) ((c : Int), (d : Int)) = true ↔ St1 (eg e) a b c d := by
 have hg := gr_eg he
 unfold frB St1
 simp only
 by_cases h1 : a = c ∧ b = d
 · obtain ⟨rfl, rfl⟩ := h1
   rw [if_pos rfl]
   exact ⟨fun _ => .inl ⟨rfl, h, hg.ir b⟩, fun _ => rfl⟩
 · have hne : ¬ (((a : Int), (b : Int)) = ((c : Int), (d : Int))) := fun hq => h1 ⟨by have := congrArg Prod.fst hq; simp only at this; omega, by have := congrArg Prod.snd hq; simp only at this; omega⟩
   rw [if_neg hne, jn_all he, jn_all he]
   by_cases h2 : a = c
   · subst h2
     rw [if_pos rfl, Bool.not_eq_true']
     constructor
     · intro h3; exact .inl ⟨rfl, h, h3⟩
     · rintro (⟨_, _, h3⟩ | ⟨h3, _⟩)
       · exact h3
       · exact absurd ⟨rfl, h3.symm⟩ h1
   · rw [if_neg (by omega), Bool.and_eq_true, decide_eq_true_eq, Bool.not_eq_true']
     constructor
     · rintro ⟨h3, h4⟩
       have : d = b := by omega
       subst this
       exact .inr ⟨rfl, h, h4⟩
     · rintro (⟨h3, _⟩ | ⟨h3, _, h4⟩)
       · exact absurd h3.symm h2
       · exact ⟨by omega, h4⟩
theorem fdK_sub {e : LP} {i : Nat} {z : PA} : ∀ {l : LP} {s : MI × LP}, z ∈ s.2 → z ∈ (l.foldl (stK e i) s).2
 | [], _, h => h
 | y :: l, s, h => fdK_sub (l := l) (by
   unfold stK
   split
   · exact List.mem_append_left _ h
   · exact h)
theorem stK_get {e : LP} {i j : Nat} {s : MI × LP} {y : PA} (h : j < s.2.length) : (stK e i s y).2.getD j (0, 0) = s.2.getD j (0, 0) ∧ j < (stK e i s y).2.length := by
 unfold stK
 split
 · exact ⟨getD_app h, by simp; omega⟩
 · exact ⟨rfl, h⟩
theorem fdK_get {e : LP} {i j : Nat} : ∀ {l : LP} {s : MI × LP}, j < s.2.length → (l.foldl (stK e i) s).2.getD j (0, 0) = s.2.getD j (0, 0) ∧ j < (l.foldl (stK e i) s).2.length
 | [], _, h => ⟨rfl, h⟩
 | y :: l, s, h => by
   obtain ⟨h1, h2⟩ := stK_get (e := e) (i := i) (y := y) h
   obtain ⟨h3, h4⟩ := fdK_get (e := e) (i := i) (l := l) h2
   exact ⟨h3.trans h1, h4⟩
theorem fdK_all {e all : LP} {i : Nat} {z : PA} : ∀ {l : LP} {s : MI × LP}, okK all s → i < s.2.length → (∀ y, y ∈ l → y ∈ all) → z ∈ l → frB e (s.2.getD i (0, 0)) z = true → z ∈ (l.foldl (stK e i) s).2
 | [], _, _, _, _, h, _ => by cases h
 | y :: l, s, ho, hi, hl, h, hf => by
   show z ∈ (l.foldl (stK e i) (stK e i s y)).2
   obtain ⟨g1, g2⟩ := stK_get (e := e) (i := i) (y := y) hi
   rcases List.mem_cons.mp h with rfl | h
   · refine fdK_sub ?_
     unfold stK
     split
     · exact List.mem_append_right _ (by simp)
     · rename_i hc
       refine (ho.dom z).mp ?_
       cases hq : (mGet P2 s.1 z).isSome with
       | true => rfl
       | false => exact absurd ⟨hq, hf⟩ hc
   · exact fdK_all (stK_ok ho hi (hl y (by simp))).1 g2 (fun w hw => hl w (by simp [hw])) h (by rw [g1]; exact hf)
theorem rsK_get {e all : LP} {s : MI × LP} {k i : Nat} (h : i < (rsK e all s k).2.length) : ∀ j, (rsK e all s (k + j)).2.getD i (0, 0) = (rsK e all s k).2.getD i (0, 0) ∧ i < (rsK e all s (k + j)).2.length
 | 0 => ⟨rfl, h⟩
 | j + 1 => by
   obtain ⟨h1, h2⟩ := rsK_get h j
   rw [← Nat.add_assoc, rsK]
   split
   · obtain ⟨h3, h4⟩ := fdK_get (e := e) (i := k + j) (l := all) h2
     exact ⟨h3.trans h1, h4⟩
   · exact ⟨h1, h2⟩
theorem rsK_mono {e all : LP} {s : MI × LP} {k : Nat} {y : PA} (h : y ∈ (rsK e all s k).2) : ∀ j, y ∈ (rsK e all s (k + j)).2
 | 0 => h
 | j + 1 => by
   have ih := rsK_mono h j
   rw [← Nat.add_assoc, rsK]
   split
   · exact fdK_sub ih
   · exact ih
theorem rsK_closed {e all : LP} {s : MI × LP} (ho : okK all s) {y z : PA} (hy : y ∈ (rsK e all s all.length).2) (hz : z ∈ all) (hf : frB e y z = true) : z ∈ (rsK e all s all.length).2 := by
 obtain ⟨k, hk, ey⟩ := List.getElem_of_mem hy
 have hok := rsK_ok (e := e) ho all.length
 have hl := nodup_le hok.nd hok.inn
 have hk2 : k < (rsK e all s k).2.length := by
   refine Classical.byContradiction fun h => ?_
   have := rsK_stop (e := e) (all := all) (s := s) (k := k) (by omega) (all.length - k)
   rw [show k + (all.length - k) = all.length by omega] at this
   rw [this] at hk
   exact h hk
 have hg := (rsK_get hk2 (all.length - k)).1
 rw [show k + (all.length - k) = all.length by omega, getD_lt hk, ey] at hg
 have : z ∈ (rsK e all s (k + 1)).2 := by
   rw [rsK, if_pos hk2]
   exact fdK_all (rsK_ok ho k) hk2 (fun y hy => hy) hz (by rw [← hg]; exact hf)
 have := rsK_mono this (all.length - (k + 1))
 rwa [show k + 1 + (all.length - (k + 1)) = all.length by omega] at this
theorem fdK_rc {n : Nat} {e all : LP} (he : grOk n e) (hall : ∀ y, y ∈ all → ∃ c d : Nat, y = ((c : Int), (d : Int)) ∧ eg e c d = true) {i p q : Nat} : ∀ {l : LP} {s : MI × LP}, i < s.2.length → (∀ y, y ∈ s.2 → rcy (eg e) p q y) → (∀ y, y ∈ l → y ∈ all) → ∀ y, y ∈ (l.foldl (stK e i) s).2 → rcy (eg e) p q y
 | [], _, _, h, _ => h
 | y :: l, s, hi, h, hl => fdK_rc he hall (l := l) (s := stK e i s y) (stK_get hi).2 (by
   unfold stK
   split
   · rename_i hc
     intro z hz
     rcases List.mem_append.mp hz with h1 | h1
     · exact h z h1
     · rw [List.mem_singleton.mp h1]
       obtain ⟨c, d, e1, hcd⟩ := hall y (hl y (by simp))
       obtain ⟨a, b, e2, hab⟩ := h _ (mem_getD (d := (0, 0)) hi)
       rw [e1, e2] at hc
       exact ⟨c, d, e1, hab.trans ((fr_iff he hcd).mp hc.2).rc⟩
   · exact h) fun z hz => hl z (by simp [hz])
theorem rsK_rc {n : Nat} {e all : LP} (he : grOk n e) (hall : ∀ y, y ∈ all → ∃ c d : Nat, y = ((c : Int), (d : Int)) ∧ eg e c d = true) {p q : Nat} {s : MI × LP} (h : ∀ y, y ∈ s.2 → rcy (eg e) p q y) : ∀ k y, y ∈ (rsK e all s k).2 → rcy (eg e) p q y
 | 0 => h
 | k + 1 => by
   have ih := rsK_rc he hall (s := s) h k
   rw [rsK]
   split
   · rename_i hk; exact fdK_rc he hall hk ih fun y hy => hy
   · exact ih
theorem L62_jr {n : Nat} {e : LP} (he : grOk n e) : L62 n (jr e) = L62 n (eg e) := L62_ext fun x y _ _ => jr_eg he x y
/-- The class, as the reference has it. -/
theorem rcl_mem {n : Nat} {e : LP} (he : grOk n e) {a b : Nat} (hab : eg e a b = true) {y : PA} : y ∈ rclL n e ((a : Int), (b : Int)) ↔ rcy (eg e) a b y := by
 have hg := gr_eg he
 have hlt := hg.lt a b hab
 have hmem : ∀ c d : Nat, eg e c d = true → ((c : Int), (d : Int)) ∈ L62 n (jr e) := fun c d hcd => by
   rw [L62_jr he]
   have := hg.lt c d hcd
   exact (L62_mem hg.hn).mpr ⟨c, d, rfl, this.1, this.2, hcd⟩
 have hall : ∀ y, y ∈ L62 n (jr e) → ∃ c d : Nat, y = ((c : Int), (d : Int)) ∧ eg e c d = true := fun y hy => by
   rw [L62_jr he] at hy
   obtain ⟨c, d, e1, _, _, e2⟩ := (L62_mem hg.hn).mp hy
   exact ⟨c, d, e1, e2⟩
 have ho := sK0_ok (hmem a b hab)
 have hok := rsK_ok (e := e) ho (L62 n (jr e)).length
 unfold rclL outF inM
 rw [List.mem_filter]
 constructor
 · rintro ⟨_, h2⟩
   exact rsK_rc he hall (fun z hz => ⟨a, b, List.mem_singleton.mp hz, .refl⟩) _ y ((hok.dom y).mp h2)
 · rintro ⟨c, d, rfl, h⟩
   have key : ((c : Int), (d : Int)) ∈ (clK e (L62 n (jr e)) ((a : Int), (b : Int))).2 := by
     induction h with
     | refl =>
       have h0 : ((a : Int), (b : Int)) ∈ (rsK e (L62 n (jr e)) (sK0 ((a : Int), (b : Int))) 0).2 := List.mem_singleton.mpr rfl
       have := rsK_mono h0 (L62 n (jr e)).length
       rwa [Nat.zero_add] at this
     | @hd c d e' h1 h2 h3 ih => exact rsK_closed ho ih (hmem c e' h2) ((fr_iff he h2).mpr (.inl ⟨rfl, h2, h3⟩))
     | @tl c d e' h1 h2 h3 ih => exact rsK_closed ho ih (hmem e' d h2) ((fr_iff he h2).mpr (.inr ⟨rfl, h2, h3⟩))
   exact ⟨hmem c d (h.ar hab), (hok.dom _).mpr key⟩
theorem rckI_zero {c : LP} {fr : List Int} {y : PA} {b : Int} : ∀ {i : Nat}, (∀ j, j < i → 0 ≤ fr.getD j 0) → (rckI c fr y b i = 0 ↔ b = 0 ∧ ∀ j, j < i → ¬ c.getD j (0, 0) = y)
 | 0, _ => by simp [rckI]
 | i + 1, hv => by
   have ih := rckI_zero (c := c) (fr := fr) (y := y) (b := b) (i := i) fun j hj => hv j (by omega)
   have hi := hv i (by omega)
   rw [rckI]
   constructor
   · intro h
     split at h
     · omega
     · rename_i hc
       have h0 := ih.mp h
       refine ⟨h0.1, fun j hj => ?_⟩
       by_cases ej : j = i
       · rw [ej]; exact fun hq => hc ⟨hq, .inl h⟩
       · exact h0.2 j (by omega)
   · rintro ⟨h1, h2⟩
     rw [if_neg fun hc => h2 i (by omega) hc.1]
     exact ih.mpr ⟨h1, fun j hj => h2 j (by omega)⟩
theorem rckN_zero {n : Nat} {e : LP} (he : grOk n e) : rckN n e = 0 ↔ noCl (eg e) := by
 have hg := gr_eg he
 have key : ∀ k, k ≤ (L62 n (jr e)).length → (rckK n e (L62 n (jr e)) k = 0 ↔ ∀ j, j < k → ¬ tn ((L62 n (jr e)).getD j (0, 0)) ∈ rclL n e ((L62 n (jr e)).getD j (0, 0))) := fun k => by
   induction k with
   | zero => intro _; simp [rckK]
   | succ k ih =>
     intro hk
     have ho := rcl_ok (mem_getD (d := (0, 0)) (show k < (L62 n (jr e)).length by omega))
     rw [rckK, rckI_zero (fun j hj => (ho.hv j hj).1), ih (by omega)]
     constructor
     · rintro ⟨h1, h2⟩ j hj
       by_cases ej : j = k
       · rw [ej]
         intro hm
         obtain ⟨i, hi, e1⟩ := List.getElem_of_mem hm
         exact h2 i hi (by rw [getD_lt hi, e1])
       · exact h1 j (by omega)
     · intro h
       refine ⟨fun j hj => h j (by omega), fun j hj e1 => h k (by omega) ?_⟩
       rw [← e1]; exact mem_getD hj
 unfold rckN
 rw [key _ (Nat.le_refl _)]
 constructor
 · intro h a b hab hc
   have hlt := hg.lt a b hab
   have hm : ((a : Int), (b : Int)) ∈ L62 n (jr e) := by
     rw [L62_jr he]; exact (L62_mem hg.hn).mpr ⟨a, b, rfl, hlt.1, hlt.2, hab⟩
   obtain ⟨i, hi, e1⟩ := List.getElem_of_mem hm
   have := h i hi
   rw [getD_lt hi, e1] at this
   exact this ((rcl_mem he hab).mpr ⟨b, a, rfl, hc⟩)
 · intro h j hj hm
   have hx := mem_getD (d := (0, 0)) hj
   rw [L62_jr he] at hx
   obtain ⟨a, b, e1, _, _, hab⟩ := (L62_mem hg.hn).mp hx
   rw [L62_jr he, e1] at hm
   obtain ⟨c, d, e2, h2⟩ := (rcl_mem he hab).mp hm
   have ec : b = c := by have := congrArg Prod.fst e2; simp only [tn] at this; omega
   have ed : a = d := by have := congrArg Prod.snd e2; simp only [tn] at this; omega
   rw [← ec, ← ed] at h2
   exact h a b hab h2
end Go.Am.Or

/- Orders: the reference: others, what two lines draw. Printed by genI4.py. -/
namespace Go.Am.Or
open Go Go.Am Go.Proofs
def nj (e : LP) (x y : Nat) : Bool := !jnB e x y
noncomputable def L16_0 : Code := lp (bodyOf Try.f16) 0
noncomputable def L16_2 : Code := lp (bodyOf Try.f16) 2
def az16 (n : Nat) (e : LP) (a : Nat) : St := ⟨(.int .i64 n :: .sl P2 e :: dd 3 ++ nl :: .int .i64 a :: dd 25), []⟩
def at16 (n : Nat) (e : LP) (a : Nat) (r : LP) : St := ⟨(.int .i64 n :: .sl P2 e :: dd 3 ++ .own 0 0 :: .int .i64 a :: dd 25), [.sc 0 52 P2 r]⟩
def bz16 (n : Nat) (e : LP) (a b : Nat) : St := ⟨(.int .i64 n :: .sl P2 e :: dd 3 ++ nl :: .int .i64 a :: .int .i64 b :: dd 24), []⟩
def bt16 (n : Nat) (e : LP) (a : Nat) (r : LP) (b : Nat) : St := ⟨(.int .i64 n :: .sl P2 e :: dd 3 ++ .own 0 0 :: .int .i64 a :: .int .i64 b :: dd 24), [.sc 0 52 P2 r]⟩
def fb16 (n : Nat) (e : LP) (a : Nat) : List Fam := [⟨Nat, fun b => (a < b ∧ b ≤ n) ∧ prK (P46 n (nj e)) 7 (a * 7 + b) = [], bz16 n e a, fun b => n - b, fun _ _ => none⟩, ⟨Nat, fun b => (a < b ∧ b ≤ n), fun b => bt16 n e a (prK (P46 n (nj e)) 7 (a * 7 + b)) b, fun b => n - b, fun _ _ => none⟩]
def xb16 (n : Nat) (e : LP) (a : Nat) : List (List Nat × Ex) := [([0, 1, 5, 6], ⟨2, Unit, fun _ => prK (P46 n (nj e)) 7 (a * 7 + n) = [], fun _ => az16 n e a⟩), ([0, 1, 5, 6], ⟨2, Unit, fun _ => True, fun _ => at16 n e a (prK (P46 n (nj e)) 7 (a * 7 + n))⟩)]
def hb16 (n : Nat) (e : LP) (a : Nat) : Hint := ⟨chks 0 [0, 1, 5, 6, 7] (fb16 n e a), (xb16 n e a).map (·.2)⟩
theorem loop16b (n : Nat) (e : LP) (hn : n ≤ 7) (he : e.length < 1000000000000000) (a : Nat) (ha : a < n) (R : Exit → St → Prop) : LoopOK (X [e58]) L16_2 (hb16 n e a) R := by
 have hP : ∀ b, a < b → b < n → (P46 n (nj e)) a b = (!jnB e a b) := fun b h0 h1 => by
   have hab := decide_eq_true h0
   have hbn := decide_eq_true h1
   simp only [P46, P62, nj, hab, hbn, Bool.true_and]
 refine loop_fams (X_ok _) [0, 1, 5, 6, 7] (fb16 n e a) (xb16 n e a) 250 ⟨fun (b : Nat) hb => ?_, fun (b : Nat) hb => ?_, trivial⟩
 · refine of_eq (q := (fun (i : Nat) => (fun (g : Prop) => (fun (f : Int) => (fun (h : Int) => (fun (d : Int) => (fun (c : Int) => g ∧ g ∧ g ∧ (f < d → g ∧ g ∧ g ∧ (List.length e + 1 ≤ 1000000000000000 ∧ g) ∧ g ∧ ((!jnB e c f) = true → g ∧ g ∧ g ∧ g ∧ g ∧ sumPre (0 : Nat) [(c, f)].length (nat_lit 16) ∧ g ∧ g ∧ inR .i64 h ∧ g ∧ ((∃ (y : Nat), (((a < y ∧ y ≤ n) ∧ prK (P46 n (nj e)) i (a * i + y) = []) ∧ n - y < n - b) ∧ (d = d ∧ e = e ∧ False ∧ c = c ∧ h = (y : Int) ∧ g) ∧ g) ∨ ∃ (y : Nat), ((a < y ∧ y ≤ n) ∧ n - y < n - b) ∧ (d = d ∧ e = e ∧ g ∧ c = c ∧ h = (y : Int) ∧ g) ∧ [(c, f)] = prK (P46 n (nj e)) i (a * i + y) ∧ g)) ∧ ((!jnB e c f) = false → g ∧ inR .i64 h ∧ g ∧ ((∃ (y : Nat), (((a < y ∧ y ≤ n) ∧ prK (P46 n (nj e)) i (a * i + y) = []) ∧ n - y < n - b) ∧ (d = d ∧ e = e ∧ g ∧ c = c ∧ h = (y : Int) ∧ g) ∧ g) ∨ ∃ (y : Nat), ((a < y ∧ y ≤ n) ∧ n - y < n - b) ∧ (d = d ∧ e = e ∧ False ∧ c = c ∧ h = (y : Int) ∧ g) ∧ False))) ∧ (¬f < d → (∃ (y : Unit), prK (P46 n (nj e)) i (a * i + n) = [] ∧ (d = d ∧ e = e ∧ g ∧ c = c ∧ g) ∧ g) ∨ ∃ (y : Unit), g ∧ (d = d ∧ e = e ∧ False ∧ c = c ∧ g) ∧ False)) ((a : Int))) ((n : Int))) (f + 1)) ((b : Int))) (True)) ((7 : Nat))) (by kernel_rfl) ?_
   simp only [zz]
   obtain ⟨b1, b2⟩ := hb
   refine ⟨fun h1 => ?_, fun h1 => by rwa [show b = n by omega] at b2⟩
   have h1 : b < n := by omega
   have hst := prK_step (P := P46 n (nj e)) (i := a) (j := b) (w := 7) (by omega)
   rw [hP b b1.1 h1] at hst
   have yes : (!jnB e a b) = true → ∃ y : Nat, ((a < y ∧ y ≤ n) ∧ n - y < n - b) ∧ (b : Int) + 1 = y ∧ [((a : Int), (b : Int))] = prK (P46 n (nj e)) 7 (a * 7 + y) := fun h => ⟨b + 1, ⟨by omega, by omega⟩, by omega, by rw [hst, if_pos h, b2]; rfl⟩
   have no : (!jnB e a b) = false → ∃ y : Nat, (((a < y ∧ y ≤ n) ∧ prK (P46 n (nj e)) 7 (a * 7 + y) = []) ∧ n - y < n - b) ∧ (b : Int) + 1 = y := fun h => ⟨b + 1, ⟨⟨by omega, by rw [hst, if_neg (by rw [h]; decide)]; exact b2⟩, by omega⟩, by omega⟩
   have iR := in1 (i := b) (by omega)
   have sP : sumPre 0 [((a : Int), (b : Int))].length 16 := by simp [sumPre]
   clear hst hP b2
   have he1 : e.length + 1 ≤ 1000000000000000 := by omega
   (repeat' first | with_reducible exact trivial | with_reducible apply And.intro | intro _)
   all_goals first | exact iR | exact sP | assumption | exact yes (by clear yes no; simp_all [Int.ofNat_inj]) | exact no (by clear yes no; simp_all [Int.ofNat_inj])
 · refine of_eq (q := (fun (j : Nat) => (fun (l : LP) => (fun (i : Prop) => (fun (h : Int) => (fun (k : Int) => (fun (g : Int) => (fun (f : Int) => (fun (d : LP) => (fun (c : Prop) => i ∧ i ∧ i ∧ (h < g → i ∧ i ∧ i ∧ (List.length e + 1 ≤ 1000000000000000 ∧ i) ∧ i ∧ ((!jnB e f h) = true → i ∧ i ∧ i ∧ i ∧ i ∧ sumPre (List.length d) [(f, h)].length (nat_lit 16) ∧ i ∧ i ∧ inR .i64 k ∧ i ∧ (c ∨ ∃ (y : Nat), ((a < y ∧ y ≤ n) ∧ n - y < n - b) ∧ (g = g ∧ e = e ∧ i ∧ f = f ∧ k = (y : Int) ∧ i) ∧ d ++ [(f, h)] = prK (P46 n (nj e)) j (a * j + y) ∧ i)) ∧ ((!jnB e f h) = false → i ∧ inR .i64 k ∧ i ∧ (c ∨ ∃ (y : Nat), ((a < y ∧ y ≤ n) ∧ n - y < n - b) ∧ (g = g ∧ e = e ∧ i ∧ f = f ∧ k = (y : Int) ∧ i) ∧ d = prK (P46 n (nj e)) j (a * j + y) ∧ i))) ∧ (¬h < g → (∃ (y : Unit), l = [] ∧ (g = g ∧ e = e ∧ False ∧ f = f ∧ i) ∧ i) ∨ ∃ (y : Unit), i ∧ (g = g ∧ e = e ∧ i ∧ f = f ∧ i) ∧ d = l ∧ i)) (∃ (y : Nat), (((a < y ∧ y ≤ n) ∧ prK (P46 n (nj e)) j (a * j + y) = []) ∧ n - y < n - b) ∧ (g = g ∧ e = e ∧ False ∧ f = f ∧ k = (y : Int) ∧ i) ∧ i)) (prK (P46 n (nj e)) j (a * j + b))) ((a : Int))) ((n : Int))) (h + 1)) ((b : Int))) (True)) (prK (P46 n (nj e)) j (a * j + n))) ((7 : Nat))) (by kernel_rfl) ?_
   simp only [zz]
   have b1 : (a < b ∧ b ≤ n) := hb
   have hlen := prK_len (P46 n (nj e)) 7 (a * 7 + b)
   refine ⟨fun h1 => ?_, fun h1 => by rw [show b = n by omega]⟩
   have h1 : b < n := by omega
   have hst := prK_step (P := P46 n (nj e)) (i := a) (j := b) (w := 7) (by omega)
   rw [hP b b1.1 h1] at hst
   have yes : (!jnB e a b) = true → ∃ y : Nat, ((a < y ∧ y ≤ n) ∧ n - y < n - b) ∧ (b : Int) + 1 = y ∧ prK (P46 n (nj e)) 7 (a * 7 + b) ++ [((a : Int), (b : Int))] = prK (P46 n (nj e)) 7 (a * 7 + y) := fun h => ⟨b + 1, ⟨by omega, by omega⟩, by omega, by rw [hst, if_pos h]⟩
   have no : (!jnB e a b) = false → ∃ y : Nat, ((a < y ∧ y ≤ n) ∧ n - y < n - b) ∧ (b : Int) + 1 = y ∧ prK (P46 n (nj e)) 7 (a * 7 + b) = prK (P46 n (nj e)) 7 (a * 7 + y) := fun h => ⟨b + 1, ⟨by omega, by omega⟩, by omega, by rw [hst, if_neg (by rw [h]; decide)]⟩
   have iR := in1 (i := b) (by omega)
   have sP : sumPre (prK (P46 n (nj e)) 7 (a * 7 + b)).length [((a : Int), (b : Int))].length 16 := by unfold sumPre; simp; omega
   clear hst hP
   have he1 : e.length + 1 ≤ 1000000000000000 := by omega
   (repeat' first | with_reducible exact trivial | with_reducible apply And.intro | intro _)
   all_goals first | exact iR | exact sP | assumption | exact yes (by clear yes no; simp_all [Int.ofNat_inj]) | exact no (by clear yes no; simp_all [Int.ofNat_inj])
def fa16 (n : Nat) (e : LP) : List Fam := [⟨Nat, fun a => a ≤ n ∧ prK (P46 n (nj e)) 7 (a * 7) = [], az16 n e, fun a => n - a, fun a _ => some (hb16 n e a)⟩, ⟨Nat, fun a => a ≤ n, fun a => at16 n e a (prK (P46 n (nj e)) 7 (a * 7)), fun a => n - a, fun a _ => some (hb16 n e a)⟩]
def xa16 (n : Nat) (e : LP) : List (List Nat × Ex) := [([5], ⟨0, Unit, fun _ => L46 n (nj e) = [], fun _ => ⟨(dd 5 ++ nl :: dd 26), []⟩⟩), ([5], ⟨0, Unit, fun _ => True, fun _ => ⟨(dd 5 ++ .own 0 0 :: dd 26), [.sc 0 52 P2 (L46 n (nj e))]⟩⟩)]
def ha16 (n : Nat) (e : LP) : Hint := ⟨chks 0 [0, 1, 5, 6] (fa16 n e), (xa16 n e).map (·.2)⟩
theorem loop16a (n : Nat) (e : LP) (hn : n ≤ 7) (he : e.length < 1000000000000000) (R : Exit → St → Prop) : LoopOK (X [e58]) L16_0 (ha16 n e) R := by
 have hrow : ∀ a, prK (P46 n (nj e)) 7 (a * 7 + n) = prK (P46 n (nj e)) 7 ((a + 1) * 7) := fun a => by
   rw [Nat.succ_mul]
   exact (prK_row hn (by omega) fun j h1 h2 => by simp only [P46, P62]; simp; omega).symm
 have hbeg : ∀ a, a < n → prK (P46 n (nj e)) 7 (a * 7) = prK (P46 n (nj e)) 7 (a * 7 + (a + 1)) := fun a ha => (prK_row (b := 0) (by omega) (by omega) fun j h1 h2 => by simp only [P46, P62]; simp; omega).symm
 have hall : prK (P46 n (nj e)) 7 (n * 7) = L46 n (nj e) := prK_rows hn fun i j h => by simp only [P46, P62]; simp; omega
 refine loop_fams (X_ok _) [0, 1, 5, 6] (fa16 n e) (xa16 n e) 250 ⟨fun (a : Nat) ha => ?_, fun (a : Nat) ha => ?_, trivial⟩
 · have hL := fun h1 R => loop16b n e hn he a h1 R
   have hrow := hrow a
   have hbeg := hbeg a
   refine of_eq (q := (fun (g : Int) => (fun (f : Prop) => (fun (d : Nat) => (fun (h : LP) => (fun (c : Int) => (fun (b : Int) => f ∧ f ∧ f ∧ (g < c → f ∧ inR .i64 b ∧ f ∧ LoopOK (X [e58]) L16_2 (hb16 n e a) (bodyR (X [e58]).m0 (xa16 n e) R) ∧ ((∃ (y : Nat), ((a < y ∧ y ≤ n) ∧ prK (P46 n (nj e)) d (a * d + y) = []) ∧ (c = c ∧ e = e ∧ f ∧ g = g ∧ b = (y : Int) ∧ f) ∧ f) ∨ ∃ (y : Nat), (a < y ∧ y ≤ n) ∧ (c = c ∧ e = e ∧ False ∧ g = g ∧ b = (y : Int) ∧ f) ∧ False) ∧ (∀ (y : Unit), h = [] → f ∧ inR .i64 b ∧ f ∧ ((∃ (y : Nat), ((y ≤ n ∧ prK (P46 n (nj e)) d (y * d) = []) ∧ n - y < n - a) ∧ (c = c ∧ e = e ∧ f ∧ b = (y : Int) ∧ f) ∧ f) ∨ ∃ (y : Nat), (y ≤ n ∧ n - y < n - a) ∧ (c = c ∧ e = e ∧ False ∧ b = (y : Int) ∧ f) ∧ False)) ∧ (∀ (y : Unit), f → f ∧ inR .i64 b ∧ f ∧ ((∃ (y : Nat), ((y ≤ n ∧ prK (P46 n (nj e)) d (y * d) = []) ∧ n - y < n - a) ∧ (c = c ∧ e = e ∧ False ∧ b = (y : Int) ∧ f) ∧ f) ∨ ∃ (y : Nat), (y ≤ n ∧ n - y < n - a) ∧ (c = c ∧ e = e ∧ f ∧ b = (y : Int) ∧ f) ∧ h = prK (P46 n (nj e)) d (y * d) ∧ f)) ∧ f) ∧ (¬g < c → (∃ (y : Unit), L46 n (nj e) = [] ∧ (f ∧ f) ∧ f) ∨ ∃ (y : Unit), f ∧ (False ∧ f) ∧ False)) (g + 1)) ((n : Int))) (prK (P46 n (nj e)) d (a * d + n))) ((7 : Nat))) (True)) ((a : Int))) (by kernel_rfl) ?_
   simp only [zz]
   obtain ⟨a1, a2⟩ := ha
   have z0 : a < n → ∃ y : Nat, ((a < y ∧ y ≤ n) ∧ prK (P46 n (nj e)) 7 (a * 7 + y) = []) ∧ (a : Int) + 1 = y := fun h => ⟨a + 1, ⟨by omega, by rw [← hbeg h]; exact a2⟩, by omega⟩
   refine ⟨fun h1 => ⟨in1 (by omega), hL (by omega) _, z0 (by omega), fun _ h2 => ⟨in1 (by omega), a + 1, ⟨⟨by omega, by rw [← hrow]; exact h2⟩, by omega⟩, by omega⟩, fun _ _ => ⟨in1 (by omega), a + 1, ⟨by omega, by omega⟩, by omega, hrow⟩⟩, fun h1 => ?_⟩
   have e0 : a = n := by omega
   rw [← hall]; rw [e0] at a2; exact a2
 · have hL := fun h1 R => loop16b n e hn he a h1 R
   have hrow := hrow a
   have hbeg := hbeg a
   refine of_eq (q := (fun (g : Int) => (fun (f : Prop) => (fun (d : Nat) => (fun (i : LP) => (fun (h : LP) => (fun (c : Int) => (fun (b : Int) => f ∧ f ∧ f ∧ (g < c → f ∧ inR .i64 b ∧ f ∧ LoopOK (X [e58]) L16_2 (hb16 n e a) (bodyR (X [e58]).m0 (xa16 n e) R) ∧ ((∃ (y : Nat), ((a < y ∧ y ≤ n) ∧ prK (P46 n (nj e)) d (a * d + y) = []) ∧ (c = c ∧ e = e ∧ False ∧ g = g ∧ b = (y : Int) ∧ f) ∧ f) ∨ ∃ (y : Nat), (a < y ∧ y ≤ n) ∧ (c = c ∧ e = e ∧ f ∧ g = g ∧ b = (y : Int) ∧ f) ∧ i = prK (P46 n (nj e)) d (a * d + y) ∧ f) ∧ (∀ (y : Unit), h = [] → f ∧ inR .i64 b ∧ f ∧ ((∃ (y : Nat), ((y ≤ n ∧ prK (P46 n (nj e)) d (y * d) = []) ∧ n - y < n - a) ∧ (c = c ∧ e = e ∧ f ∧ b = (y : Int) ∧ f) ∧ f) ∨ ∃ (y : Nat), (y ≤ n ∧ n - y < n - a) ∧ (c = c ∧ e = e ∧ False ∧ b = (y : Int) ∧ f) ∧ False)) ∧ (∀ (y : Unit), f → f ∧ inR .i64 b ∧ f ∧ ((∃ (y : Nat), ((y ≤ n ∧ prK (P46 n (nj e)) d (y * d) = []) ∧ n - y < n - a) ∧ (c = c ∧ e = e ∧ False ∧ b = (y : Int) ∧ f) ∧ f) ∨ ∃ (y : Nat), (y ≤ n ∧ n - y < n - a) ∧ (c = c ∧ e = e ∧ f ∧ b = (y : Int) ∧ f) ∧ h = prK (P46 n (nj e)) d (y * d) ∧ f)) ∧ f) ∧ (¬g < c → (∃ (y : Unit), L46 n (nj e) = [] ∧ (False ∧ f) ∧ f) ∨ ∃ (y : Unit), f ∧ (f ∧ f) ∧ i = L46 n (nj e) ∧ f)) (g + 1)) ((n : Int))) (prK (P46 n (nj e)) d (a * d + n))) (prK (P46 n (nj e)) d (a * d))) ((7 : Nat))) (True)) ((a : Int))) (by kernel_rfl) ?_
   simp only [zz]
   have a1 : a ≤ n := ha
   refine ⟨fun h1 => ⟨in1 (by omega), hL (by omega) _, ⟨a + 1, by omega, by omega, hbeg (by omega)⟩, fun _ h2 => ⟨in1 (by omega), a + 1, ⟨⟨by omega, by rw [← hrow]; exact h2⟩, by omega⟩, by omega⟩, fun _ _ => ⟨in1 (by omega), a + 1, ⟨by omega, by omega⟩, by omega, hrow⟩⟩, fun h1 => ?_⟩
   have e0 : a = n := by omega
   rw [← hall, e0]
theorem call16 (n : Nat) (hn : n ≤ 7) (e : LP) (he : e.length < 1000000000000000) : GCall Try.prog gl 16 true [.int .i64 n, .sl P2 e] [] [.sl P2 (L46 n (nj e))] [] := by
 refine gcall_of (X := (X [e58])) ((X_ok _)) (f := 16) (fn := Try.f16) (c := bodyOf Try.f16) (by kernel_rfl) (by kernel_rfl) (view := true) (rvs := [.tmp 4]) (by kernel_rfl) (H := (fun _ => some (ha16 n e))) 150 (by kernel_rfl) ?_
 have hL := fun R => loop16a n e hn he R
 refine of_eq (q := (fun (b : Prop) => (fun (a : LP) => b ∧ b ∧ b ∧ LoopOK (X [e58]) L16_0 (ha16 n e) (RetR (X [e58]) true true [ResultVar.tmp (4 : Tmp)] [AV.sl P2 a] []) ∧ ((∃ (y : Nat), (y ≤ n ∧ prK (P46 n (nj e)) (7 : Nat) (y * 7) = []) ∧ ((n : Int) = (n : Int) ∧ e = e ∧ b ∧ (0 : Int) = (y : Int) ∧ b) ∧ b) ∨ ∃ (y : Nat), y ≤ n ∧ ((n : Int) = (n : Int) ∧ e = e ∧ False ∧ (0 : Int) = (y : Int) ∧ b) ∧ False) ∧ (∀ (y : Unit), a = [] → b ∧ b ∧ b ∧ (([] : List (Int × Int)) = a ∧ b) ∧ b) ∧ (∀ (y : Unit), b → b ∧ b ∧ b ∧ (a = a ∧ b) ∧ b) ∧ b) (L46 n (nj e))) (True)) (by kernel_rfl) ?_
 simp only [zz]
 exact ⟨hL _, ⟨0, ⟨Nat.zero_le _, rfl⟩, rfl⟩, fun _ h => h.symm, fun _ _ => trivial⟩
def e16 : Entry Try.prog gl := entry2 16 ⟨Try.f16, by kernel_rfl, by kernel_rfl, by kernel_rfl⟩ I64 SP (fun (n : Int) e => (0 ≤ n ∧ n ≤ 7) ∧ (e : LP).length < 1000000000000000) true (fun (n : Int) e => [.sl P2 (L46 n.toNat (nj e))]) (fun _ _ => []) (fun (n : Int) e h => by have := call16 n.toNat (by omega) e h.2; rwa [Int.toNat_of_nonneg h.1.1] at this)
def bfK (l : List Int) (a b : Int) : Nat → Bool → Bool
 | 0, d => d
 | k + 1, d => if l.getD (l.length - (k + 1)) 0 = a then true else if l.getD (l.length - (k + 1)) 0 = b then false else bfK l a b k d
def bfB (l : List Int) (a b : Int) : Bool := bfK l a b l.length false
noncomputable def L59_0 : Code := lp (bodyOf Try.f59) 0
def st59 (l : List Int) (a b : Int) (i : Nat) : St := ⟨(.sl I64 l :: .int .i64 a :: .int .i64 b :: dd 4 ++ .int .i64 i :: dd 18), []⟩
def ex59 (l : List Int) (a b : Int) : List (List Nat × Ex) := [([], ⟨0, Unit, fun _ => bfB l a b = false, fun _ => ⟨(dd 26), []⟩⟩)]
def h59 (l : List Int) (a b : Int) : Hint := ⟨chk 0 [0, 1, 2, 7] (fun i => i ≤ l.length ∧ bfB l a b = bfK l a b (l.length - i) false) (st59 l a b), (ex59 l a b).map (·.2)⟩
theorem loop59 (l : List Int) (a b : Int) (hl : l.length < 1000000000000000) : LoopOK (X []) L59_0 (h59 l a b) (RetR (X []) true false [.tmp 6] [.bool (bfB l a b)] []) := by
 refine loop_ok (X_ok _) (H := fun _ _ => none) [0, 1, 2, 7] (fun i => i ≤ l.length ∧ bfB l a b = bfK l a b (l.length - i) false) (st59 l a b) (fun i => l.length - i) (ex59 l a b) 200 fun (i : Nat) hi => ?_
 refine of_eq (q := (fun (f : Bool) => (fun (e : Int) => (fun (d : Int) => (fun (c : Prop) => c ∧ c ∧ c ∧ c ∧ (d < (l.length : Int) → c ∧ c ∧ idxPre d l.length ∧ c ∧ c ∧ c ∧ (e = a → c ∧ c ∧ (true = f ∧ c) ∧ c) ∧ (¬e = a → c ∧ c ∧ idxPre d l.length ∧ c ∧ c ∧ c ∧ (e = b → c ∧ c ∧ (false = f ∧ c) ∧ c) ∧ (¬e = b → c ∧ inR .i64 (d + 1) ∧ c ∧ ∃ (y : Nat), ((y ≤ l.length ∧ f = bfK l a b (l.length - y) false) ∧ l.length - y < l.length - i) ∧ (l = l ∧ a = a ∧ b = b ∧ d + 1 = (y : Int) ∧ c) ∧ c))) ∧ (¬d < (l.length : Int) → ∃ (y : Unit), f = false ∧ c ∧ c)) (True)) ((i : Int))) (l.getD i (0 : Int))) (bfB l a b)) (by kernel_rfl) ?_
 simp only [zz]
 obtain ⟨i1, i2⟩ := hi
 refine ⟨fun h1 => ?_, fun h1 => by rw [i2, show l.length - i = 0 by omega]; rfl⟩
 have h1 : i < l.length := by omega
 have ii := idx_nat h1
 have hst : bfK l a b (l.length - i) false = if l.getD i 0 = a then true else if l.getD i 0 = b then false else bfK l a b (l.length - (i + 1)) false := by
   obtain ⟨j, hj⟩ : ∃ j, l.length - i = j + 1 := ⟨l.length - i - 1, by omega⟩
   rw [hj, bfK, show l.length - (j + 1) = i by omega, show l.length - (i + 1) = j by omega]
 rw [i2, hst]
 refine ⟨ii, fun h2 => by rw [if_pos h2], fun h2 => ⟨ii, fun h3 => by rw [if_neg h2, if_pos h3], fun h3 => ⟨by simp only [inR]; omega, i + 1, ⟨⟨by omega, by rw [if_neg h2, if_neg h3]⟩, by omega⟩, by omega⟩⟩⟩
theorem call59 (l : List Int) (a b : Int) (hl : (l : List Int).length < 1000000000000000) : GCall Try.prog gl 59 true [.sl I64 l, .int .i64 a, .int .i64 b] [] [.bool (bfB l a b)] [] := by
 refine gcall_of (X := (X [])) ((X_ok _)) (f := 59) (fn := Try.f59) (c := bodyOf Try.f59) (by kernel_rfl) (by kernel_rfl) (view := false) (rvs := [.tmp 6]) (by kernel_rfl) (H := (fun _ => some (h59 l a b))) 150 (by kernel_rfl) ?_
 have hL := loop59 l a b hl
 refine of_eq (q := (fun (c : Bool) => True ∧ True ∧ LoopOK (X []) L59_0 (h59 l a b) (RetR (X []) true false [ResultVar.tmp (6 : Tmp)] [AV.bool c] []) ∧ (∃ (y : Nat), (y ≤ l.length ∧ c = bfK l a b (l.length - y) false) ∧ (l = l ∧ a = a ∧ b = b ∧ (0 : Int) = (y : Int) ∧ True) ∧ True) ∧ (∀ (y : Unit), c = false → True ∧ True ∧ (false = c ∧ True) ∧ True) ∧ True) (bfB l a b)) (by kernel_rfl) ?_
 simp only [zz]
 exact ⟨hL, ⟨0, ⟨Nat.zero_le _, rfl⟩, rfl⟩, fun _ h => h.symm⟩
def e59 : Entry Try.prog gl := entry3 59 ⟨Try.f59, by kernel_rfl, by kernel_rfl, by kernel_rfl⟩ SI I64 I64 (fun l _ _ => (l : List Int).length < 1000000000000000) true (fun l (a b : Int) => [.bool (bfB l a b)]) (fun _ _ _ => []) (fun l (a b : Int) h => call59 l a b h)
def df (l : List Int × List Int) (x y : Nat) : Bool := bfB l.1 x y != bfB l.2 x y
def cf (l : List Int × List Int) (x y : Nat) : Bool := !decide (x = y) && (bfB l.1 x y && bfB l.2 x y)
noncomputable def L19_0 : Code := lp (bodyOf Try.f19) 0
noncomputable def L19_2 : Code := lp (bodyOf Try.f19) 2
def az19 (n : Nat) (l : List Int × List Int) (a : Nat) : St := ⟨(.int .i64 n :: dd 2 ++ .ptr 0 0 [] :: .dead :: nl :: .int .i64 a :: dd 31), [.bx (.ar SI 2 [l.1, l.2])]⟩
def at19 (n : Nat) (l : List Int × List Int) (a : Nat) (r : LP) : St := ⟨(.int .i64 n :: dd 2 ++ .ptr 0 0 [] :: .dead :: .own 1 0 :: .int .i64 a :: dd 31), [.bx (.ar SI 2 [l.1, l.2]), .sc 0 52 P2 r]⟩
def bz19 (n : Nat) (l : List Int × List Int) (a b : Nat) : St := ⟨(.int .i64 n :: dd 2 ++ .ptr 0 0 [] :: .dead :: nl :: .int .i64 a :: .int .i64 b :: dd 30), [.bx (.ar SI 2 [l.1, l.2])]⟩
def bt19 (n : Nat) (l : List Int × List Int) (a : Nat) (r : LP) (b : Nat) : St := ⟨(.int .i64 n :: dd 2 ++ .ptr 0 0 [] :: .dead :: .own 1 0 :: .int .i64 a :: .int .i64 b :: dd 30), [.bx (.ar SI 2 [l.1, l.2]), .sc 0 52 P2 r]⟩
def fb19 (n : Nat) (l : List Int × List Int) (a : Nat) : List Fam := [⟨Nat, fun b => (a < b ∧ b ≤ n) ∧ prK (P46 n (df l)) 7 (a * 7 + b) = [], bz19 n l a, fun b => n - b, fun _ _ => none⟩, ⟨Nat, fun b => (a < b ∧ b ≤ n), fun b => bt19 n l a (prK (P46 n (df l)) 7 (a * 7 + b)) b, fun b => n - b, fun _ _ => none⟩]
def xb19 (n : Nat) (l : List Int × List Int) (a : Nat) : List (List Nat × Ex) := [([0, 3, 5, 6], ⟨2, Unit, fun _ => prK (P46 n (df l)) 7 (a * 7 + n) = [], fun _ => az19 n l a⟩), ([0, 3, 5, 6], ⟨2, Unit, fun _ => True, fun _ => at19 n l a (prK (P46 n (df l)) 7 (a * 7 + n))⟩)]
def hb19 (n : Nat) (l : List Int × List Int) (a : Nat) : Hint := ⟨chks 0 [0, 3, 5, 6, 7] (fb19 n l a), (xb19 n l a).map (·.2)⟩
theorem loop19b (n : Nat) (l : List Int × List Int) (hn : n ≤ 7) (g1 : l.1.length < 1000000000000000) (g2 : l.2.length < 1000000000000000) (a : Nat) (ha : a < n) (R : Exit → St → Prop) : LoopOK (X [e59]) L19_2 (hb19 n l a) R := by
 have hP : ∀ b, a < b → b < n → (P46 n (df l)) a b = (bfB l.1 a b != bfB l.2 a b) := fun b h0 h1 => by
   have hab := decide_eq_true h0
   have hbn := decide_eq_true h1
   simp only [P46, P62, df, hab, hbn, Bool.true_and]
 refine loop_fams (X_ok _) [0, 3, 5, 6, 7] (fb19 n l a) (xb19 n l a) 250 ⟨fun (b : Nat) hb => ?_, fun (b : Nat) hb => ?_, trivial⟩
 · refine of_eq (q := (fun (i : Nat) => (fun (g : Prop) => (fun (f : Prop) => (fun (e : Int) => (fun (d : Int) => (fun (h : Int) => (fun (c : Int) => (fun (j : Bool) => g ∧ g ∧ g ∧ (d < e → idxPre (0 : Int) (2 : Nat) ∧ g ∧ g ∧ g ∧ l.fst.length + 1 ≤ 1000000000000000 ∧ idxPre (1 : Int) (2 : Nat) ∧ g ∧ g ∧ g ∧ l.snd.length + 1 ≤ 1000000000000000 ∧ g ∧ (j = true → g ∧ g ∧ g ∧ g ∧ g ∧ sumPre (0 : Nat) [(c, d)].length (nat_lit 16) ∧ g ∧ g ∧ inR .i64 h ∧ g ∧ ((∃ (y : Nat), (((a < y ∧ y ≤ n) ∧ prK (P46 n (df l)) i (a * i + y) = []) ∧ n - y < n - b) ∧ (e = e ∧ g ∧ False ∧ c = c ∧ h = (y : Int) ∧ g) ∧ f ∧ g) ∨ ∃ (y : Nat), ((a < y ∧ y ≤ n) ∧ n - y < n - b) ∧ (e = e ∧ g ∧ g ∧ c = c ∧ h = (y : Int) ∧ g) ∧ f ∧ [(c, d)] = prK (P46 n (df l)) i (a * i + y) ∧ g)) ∧ (j = false → g ∧ inR .i64 h ∧ g ∧ ((∃ (y : Nat), (((a < y ∧ y ≤ n) ∧ prK (P46 n (df l)) i (a * i + y) = []) ∧ n - y < n - b) ∧ (e = e ∧ g ∧ g ∧ c = c ∧ h = (y : Int) ∧ g) ∧ f ∧ g) ∨ ∃ (y : Nat), ((a < y ∧ y ≤ n) ∧ n - y < n - b) ∧ (e = e ∧ g ∧ False ∧ c = c ∧ h = (y : Int) ∧ g) ∧ f ∧ False))) ∧ (¬d < e → (∃ (y : Unit), prK (P46 n (df l)) i (a * i + n) = [] ∧ (e = e ∧ g ∧ g ∧ c = c ∧ g) ∧ f ∧ g) ∨ ∃ (y : Unit), g ∧ (e = e ∧ g ∧ False ∧ c = c ∧ g) ∧ f ∧ False)) (bfB l.fst c d != bfB l.snd c d)) ((a : Int))) (d + 1)) ((b : Int))) ((n : Int))) ([l.fst, l.snd] = [l.fst, l.snd])) (True)) ((7 : Nat))) (by kernel_rfl) ?_
   simp only [zz]
   obtain ⟨b1, b2⟩ := hb
   refine ⟨fun h1 => ?_, fun h1 => by rwa [show b = n by omega] at b2⟩
   have h1 : b < n := by omega
   have hst := prK_step (P := P46 n (df l)) (i := a) (j := b) (w := 7) (by omega)
   rw [hP b b1.1 h1] at hst
   have yes : (bfB l.1 a b != bfB l.2 a b) = true → ∃ y : Nat, ((a < y ∧ y ≤ n) ∧ n - y < n - b) ∧ (b : Int) + 1 = y ∧ [((a : Int), (b : Int))] = prK (P46 n (df l)) 7 (a * 7 + y) := fun h => ⟨b + 1, ⟨by omega, by omega⟩, by omega, by rw [hst, if_pos h, b2]; rfl⟩
   have no : (bfB l.1 a b != bfB l.2 a b) = false → ∃ y : Nat, (((a < y ∧ y ≤ n) ∧ prK (P46 n (df l)) 7 (a * 7 + y) = []) ∧ n - y < n - b) ∧ (b : Int) + 1 = y := fun h => ⟨b + 1, ⟨⟨by omega, by rw [hst, if_neg (by rw [h]; decide)]; exact b2⟩, by omega⟩, by omega⟩
   have iR := in1 (i := b) (by omega)
   have sP : sumPre 0 [((a : Int), (b : Int))].length 16 := by simp [sumPre]
   clear hst hP b2
   have he1 : l.1.length + 1 ≤ 1000000000000000 := by omega
   have he2 : l.2.length + 1 ≤ 1000000000000000 := by omega
   have j0 := i02
   have j1 := i12
   (repeat' first | with_reducible exact trivial | with_reducible apply And.intro | intro _)
   all_goals first | exact iR | exact sP | assumption | exact yes (by clear yes no; simp_all [Int.ofNat_inj]) | exact no (by clear yes no; simp_all [Int.ofNat_inj])
 · refine of_eq (q := (fun (j : Nat) => (fun (m : LP) => (fun (i : Prop) => (fun (h : Prop) => (fun (g : Int) => (fun (f : Int) => (fun (k : Int) => (fun (e : Int) => (fun (o : Bool) => (fun (d : LP) => (fun (c : Prop) => i ∧ i ∧ i ∧ (f < g → idxPre (0 : Int) (2 : Nat) ∧ i ∧ i ∧ i ∧ l.fst.length + 1 ≤ 1000000000000000 ∧ idxPre (1 : Int) (2 : Nat) ∧ i ∧ i ∧ i ∧ l.snd.length + 1 ≤ 1000000000000000 ∧ i ∧ (o = true → i ∧ i ∧ i ∧ i ∧ i ∧ sumPre (List.length d) [(e, f)].length (nat_lit 16) ∧ i ∧ i ∧ inR .i64 k ∧ i ∧ (c ∨ ∃ (y : Nat), ((a < y ∧ y ≤ n) ∧ n - y < n - b) ∧ (g = g ∧ i ∧ i ∧ e = e ∧ k = (y : Int) ∧ i) ∧ h ∧ d ++ [(e, f)] = prK (P46 n (df l)) j (a * j + y) ∧ i)) ∧ (o = false → i ∧ inR .i64 k ∧ i ∧ (c ∨ ∃ (y : Nat), ((a < y ∧ y ≤ n) ∧ n - y < n - b) ∧ (g = g ∧ i ∧ i ∧ e = e ∧ k = (y : Int) ∧ i) ∧ h ∧ d = prK (P46 n (df l)) j (a * j + y) ∧ i))) ∧ (¬f < g → (∃ (y : Unit), m = [] ∧ (g = g ∧ i ∧ False ∧ e = e ∧ i) ∧ h ∧ i) ∨ ∃ (y : Unit), i ∧ (g = g ∧ i ∧ i ∧ e = e ∧ i) ∧ h ∧ d = m ∧ i)) (∃ (y : Nat), (((a < y ∧ y ≤ n) ∧ prK (P46 n (df l)) j (a * j + y) = []) ∧ n - y < n - b) ∧ (g = g ∧ i ∧ False ∧ e = e ∧ k = (y : Int) ∧ i) ∧ h ∧ i)) (prK (P46 n (df l)) j (a * j + b))) (bfB l.fst e f != bfB l.snd e f)) ((a : Int))) (f + 1)) ((b : Int))) ((n : Int))) ([l.fst, l.snd] = [l.fst, l.snd])) (True)) (prK (P46 n (df l)) j (a * j + n))) ((7 : Nat))) (by kernel_rfl) ?_
   simp only [zz]
   have b1 : (a < b ∧ b ≤ n) := hb
   have hlen := prK_len (P46 n (df l)) 7 (a * 7 + b)
   refine ⟨fun h1 => ?_, fun h1 => by rw [show b = n by omega]⟩
   have h1 : b < n := by omega
   have hst := prK_step (P := P46 n (df l)) (i := a) (j := b) (w := 7) (by omega)
   rw [hP b b1.1 h1] at hst
   have yes : (bfB l.1 a b != bfB l.2 a b) = true → ∃ y : Nat, ((a < y ∧ y ≤ n) ∧ n - y < n - b) ∧ (b : Int) + 1 = y ∧ prK (P46 n (df l)) 7 (a * 7 + b) ++ [((a : Int), (b : Int))] = prK (P46 n (df l)) 7 (a * 7 + y) := fun h => ⟨b + 1, ⟨by omega, by omega⟩, by omega, by rw [hst, if_pos h]⟩
   have no : (bfB l.1 a b != bfB l.2 a b) = false → ∃ y : Nat, ((a < y ∧ y ≤ n) ∧ n - y < n - b) ∧ (b : Int) + 1 = y ∧ prK (P46 n (df l)) 7 (a * 7 + b) = prK (P46 n (df l)) 7 (a * 7 + y) := fun h => ⟨b + 1, ⟨by omega, by omega⟩, by omega, by rw [hst, if_neg (by rw [h]; decide)]⟩
   have iR := in1 (i := b) (by omega)
   have sP : sumPre (prK (P46 n (df l)) 7 (a * 7 + b)).length [((a : Int), (b : Int))].length 16 := by unfold sumPre; simp; omega
   clear hst hP
   have he1 : l.1.length + 1 ≤ 1000000000000000 := by omega
   have he2 : l.2.length + 1 ≤ 1000000000000000 := by omega
   have j0 := i02
   have j1 := i12
   (repeat' first | with_reducible exact trivial | with_reducible apply And.intro | intro _)
   all_goals first | exact iR | exact sP | assumption | exact yes (by clear yes no; simp_all [Int.ofNat_inj]) | exact no (by clear yes no; simp_all [Int.ofNat_inj])
def fa19 (n : Nat) (l : List Int × List Int) : List Fam := [⟨Nat, fun a => a ≤ n ∧ prK (P46 n (df l)) 7 (a * 7) = [], az19 n l, fun a => n - a, fun a _ => some (hb19 n l a)⟩, ⟨Nat, fun a => a ≤ n, fun a => at19 n l a (prK (P46 n (df l)) 7 (a * 7)), fun a => n - a, fun a _ => some (hb19 n l a)⟩]
def xa19 (n : Nat) (l : List Int × List Int) : List (List Nat × Ex) := [([5], ⟨0, Unit, fun _ => L46 n (df l) = [], fun _ => ⟨(dd 5 ++ nl :: dd 32), []⟩⟩), ([5], ⟨0, Unit, fun _ => True, fun _ => ⟨(dd 5 ++ .own 0 0 :: dd 32), [.sc 0 52 P2 (L46 n (df l))]⟩⟩)]
def ha19 (n : Nat) (l : List Int × List Int) : Hint := ⟨chks 0 [0, 3, 5, 6] (fa19 n l), (xa19 n l).map (·.2)⟩
theorem loop19a (n : Nat) (l : List Int × List Int) (hn : n ≤ 7) (g1 : l.1.length < 1000000000000000) (g2 : l.2.length < 1000000000000000) (R : Exit → St → Prop) : LoopOK (X [e59]) L19_0 (ha19 n l) R := by
 have hrow : ∀ a, prK (P46 n (df l)) 7 (a * 7 + n) = prK (P46 n (df l)) 7 ((a + 1) * 7) := fun a => by
   rw [Nat.succ_mul]
   exact (prK_row hn (by omega) fun j h1 h2 => by simp only [P46, P62]; simp; omega).symm
 have hbeg : ∀ a, a < n → prK (P46 n (df l)) 7 (a * 7) = prK (P46 n (df l)) 7 (a * 7 + (a + 1)) := fun a ha => (prK_row (b := 0) (by omega) (by omega) fun j h1 h2 => by simp only [P46, P62]; simp; omega).symm
 have hall : prK (P46 n (df l)) 7 (n * 7) = L46 n (df l) := prK_rows hn fun i j h => by simp only [P46, P62]; simp; omega
 refine loop_fams (X_ok _) [0, 3, 5, 6] (fa19 n l) (xa19 n l) 250 ⟨fun (a : Nat) ha => ?_, fun (a : Nat) ha => ?_, trivial⟩
 · have hL := fun h1 R => loop19b n l hn g1 g2 a h1 R
   have hrow := hrow a
   have hbeg := hbeg a
   refine of_eq (q := (fun (g : Int) => (fun (f : Nat) => (fun (h : LP) => (fun (e : Prop) => (fun (d : Prop) => (fun (c : Int) => (fun (b : Int) => e ∧ e ∧ e ∧ (g < c → e ∧ inR .i64 b ∧ e ∧ LoopOK (X [e59]) L19_2 (hb19 n l a) (bodyR (X [e59]).m0 (xa19 n l) R) ∧ ((∃ (y : Nat), ((a < y ∧ y ≤ n) ∧ prK (P46 n (df l)) f (a * f + y) = []) ∧ (c = c ∧ e ∧ e ∧ g = g ∧ b = (y : Int) ∧ e) ∧ d ∧ e) ∨ ∃ (y : Nat), (a < y ∧ y ≤ n) ∧ (c = c ∧ e ∧ False ∧ g = g ∧ b = (y : Int) ∧ e) ∧ d ∧ False) ∧ (∀ (y : Unit), h = [] → e ∧ inR .i64 b ∧ e ∧ ((∃ (y : Nat), ((y ≤ n ∧ prK (P46 n (df l)) f (y * f) = []) ∧ n - y < n - a) ∧ (c = c ∧ e ∧ e ∧ b = (y : Int) ∧ e) ∧ d ∧ e) ∨ ∃ (y : Nat), (y ≤ n ∧ n - y < n - a) ∧ (c = c ∧ e ∧ False ∧ b = (y : Int) ∧ e) ∧ d ∧ False)) ∧ (∀ (y : Unit), e → e ∧ inR .i64 b ∧ e ∧ ((∃ (y : Nat), ((y ≤ n ∧ prK (P46 n (df l)) f (y * f) = []) ∧ n - y < n - a) ∧ (c = c ∧ e ∧ False ∧ b = (y : Int) ∧ e) ∧ d ∧ e) ∨ ∃ (y : Nat), (y ≤ n ∧ n - y < n - a) ∧ (c = c ∧ e ∧ e ∧ b = (y : Int) ∧ e) ∧ d ∧ h = prK (P46 n (df l)) f (y * f) ∧ e)) ∧ e) ∧ (¬g < c → (∃ (y : Unit), L46 n (df l) = [] ∧ (e ∧ e) ∧ e) ∨ ∃ (y : Unit), e ∧ (False ∧ e) ∧ False)) (g + 1)) ((n : Int))) ([l.fst, l.snd] = [l.fst, l.snd])) (True)) (prK (P46 n (df l)) f (a * f + n))) ((7 : Nat))) ((a : Int))) (by kernel_rfl) ?_
   simp only [zz]
   obtain ⟨a1, a2⟩ := ha
   have z0 : a < n → ∃ y : Nat, ((a < y ∧ y ≤ n) ∧ prK (P46 n (df l)) 7 (a * 7 + y) = []) ∧ (a : Int) + 1 = y := fun h => ⟨a + 1, ⟨by omega, by rw [← hbeg h]; exact a2⟩, by omega⟩
   refine ⟨fun h1 => ⟨in1 (by omega), hL (by omega) _, z0 (by omega), fun _ h2 => ⟨in1 (by omega), a + 1, ⟨⟨by omega, by rw [← hrow]; exact h2⟩, by omega⟩, by omega⟩, fun _ _ => ⟨in1 (by omega), a + 1, ⟨by omega, by omega⟩, by omega, hrow⟩⟩, fun h1 => ?_⟩
   have e0 : a = n := by omega
   rw [← hall]; rw [e0] at a2; exact a2
 · have hL := fun h1 R => loop19b n l hn g1 g2 a h1 R
   have hrow := hrow a
   have hbeg := hbeg a
   refine of_eq (q := (fun (g : Int) => (fun (f : Prop) => (fun (e : Nat) => (fun (i : LP) => (fun (h : LP) => (fun (d : Prop) => (fun (c : Int) => (fun (b : Int) => f ∧ f ∧ f ∧ (g < c → f ∧ inR .i64 b ∧ f ∧ LoopOK (X [e59]) L19_2 (hb19 n l a) (bodyR (X [e59]).m0 (xa19 n l) R) ∧ ((∃ (y : Nat), ((a < y ∧ y ≤ n) ∧ prK (P46 n (df l)) e (a * e + y) = []) ∧ (c = c ∧ f ∧ False ∧ g = g ∧ b = (y : Int) ∧ f) ∧ d ∧ f) ∨ ∃ (y : Nat), (a < y ∧ y ≤ n) ∧ (c = c ∧ f ∧ f ∧ g = g ∧ b = (y : Int) ∧ f) ∧ d ∧ i = prK (P46 n (df l)) e (a * e + y) ∧ f) ∧ (∀ (y : Unit), h = [] → f ∧ inR .i64 b ∧ f ∧ ((∃ (y : Nat), ((y ≤ n ∧ prK (P46 n (df l)) e (y * e) = []) ∧ n - y < n - a) ∧ (c = c ∧ f ∧ f ∧ b = (y : Int) ∧ f) ∧ d ∧ f) ∨ ∃ (y : Nat), (y ≤ n ∧ n - y < n - a) ∧ (c = c ∧ f ∧ False ∧ b = (y : Int) ∧ f) ∧ d ∧ False)) ∧ (∀ (y : Unit), f → f ∧ inR .i64 b ∧ f ∧ ((∃ (y : Nat), ((y ≤ n ∧ prK (P46 n (df l)) e (y * e) = []) ∧ n - y < n - a) ∧ (c = c ∧ f ∧ False ∧ b = (y : Int) ∧ f) ∧ d ∧ f) ∨ ∃ (y : Nat), (y ≤ n ∧ n - y < n - a) ∧ (c = c ∧ f ∧ f ∧ b = (y : Int) ∧ f) ∧ d ∧ h = prK (P46 n (df l)) e (y * e) ∧ f)) ∧ f) ∧ (¬g < c → (∃ (y : Unit), L46 n (df l) = [] ∧ (False ∧ f) ∧ f) ∨ ∃ (y : Unit), f ∧ (f ∧ f) ∧ i = L46 n (df l) ∧ f)) (g + 1)) ((n : Int))) ([l.fst, l.snd] = [l.fst, l.snd])) (prK (P46 n (df l)) e (a * e + n))) (prK (P46 n (df l)) e (a * e))) ((7 : Nat))) (True)) ((a : Int))) (by kernel_rfl) ?_
   simp only [zz]
   have a1 : a ≤ n := ha
   refine ⟨fun h1 => ⟨in1 (by omega), hL (by omega) _, ⟨a + 1, by omega, by omega, hbeg (by omega)⟩, fun _ h2 => ⟨in1 (by omega), a + 1, ⟨⟨by omega, by rw [← hrow]; exact h2⟩, by omega⟩, by omega⟩, fun _ _ => ⟨in1 (by omega), a + 1, ⟨by omega, by omega⟩, by omega, hrow⟩⟩, fun h1 => ?_⟩
   have e0 : a = n := by omega
   rw [← hall, e0]
theorem call19 (n : Nat) (hn : n ≤ 7) (l : List Int × List Int) (h1 : l.1.length < 1000000000000000) (h2 : l.2.length < 1000000000000000) : GCall Try.prog gl 19 true [.int .i64 n, .ar SI 2 [l.1, l.2]] [] [.sl P2 (L46 n (df l))] [] := by
 refine gcall_of (X := (X [e59])) ((X_ok _)) (f := 19) (fn := Try.f19) (c := bodyOf Try.f19) (by kernel_rfl) (by kernel_rfl) (view := true) (rvs := [.tmp 4]) (by kernel_rfl) (H := (fun _ => some (ha19 n l))) 150 (by kernel_rfl) ?_
 have hL := fun R => loop19a n l hn h1 h2 R
 refine of_eq (q := (fun (c : List (List Int)) => (fun (b : Prop) => (fun (a : LP) => b ∧ b ∧ b ∧ b ∧ LoopOK (X [e59]) L19_0 (ha19 n l) (RetR (X [e59]) true true [ResultVar.tmp (4 : Tmp)] [AV.sl P2 a] []) ∧ ((∃ (y : Nat), (y ≤ n ∧ prK (P46 n (df l)) (7 : Nat) (y * 7) = []) ∧ ((n : Int) = (n : Int) ∧ b ∧ b ∧ (0 : Int) = (y : Int) ∧ b) ∧ c = c ∧ b) ∨ ∃ (y : Nat), y ≤ n ∧ ((n : Int) = (n : Int) ∧ b ∧ False ∧ (0 : Int) = (y : Int) ∧ b) ∧ c = c ∧ False) ∧ (∀ (y : Unit), a = [] → b ∧ b ∧ b ∧ (([] : List (Int × Int)) = a ∧ b) ∧ b) ∧ (∀ (y : Unit), b → b ∧ b ∧ b ∧ (a = a ∧ b) ∧ b) ∧ b) (L46 n (df l))) (True)) ([l.fst, l.snd])) (by kernel_rfl) ?_
 simp only [zz]
 exact ⟨hL _, ⟨0, ⟨Nat.zero_le _, rfl⟩, rfl⟩, fun _ h => h.symm, fun _ _ => trivial⟩
def e19 : Entry Try.prog gl := entry2 19 ⟨Try.f19, by kernel_rfl, by kernel_rfl, by kernel_rfl⟩ I64 (.a2 SI) (fun (n : Int) (l : List Int × List Int) => ((0 ≤ n ∧ n ≤ 7) ∧ l.1.length < 1000000000000000) ∧ l.2.length < 1000000000000000) true (fun (n : Int) (l : List Int × List Int) => [.sl P2 (L46 n.toNat (df l))]) (fun _ _ => []) (fun (n : Int) (l : List Int × List Int) h => by
 have := call19 n.toNat (by omega) l h.1.2 h.2
 rwa [Int.toNat_of_nonneg h.1.1.1] at this)
noncomputable def L22_0 : Code := lp (bodyOf Try.f22) 0
noncomputable def L22_2 : Code := lp (bodyOf Try.f22) 2
def az22 (n : Nat) (l : List Int × List Int) (a : Nat) : St := ⟨(.int .i64 n :: dd 2 ++ .ptr 0 0 [] :: .dead :: nl :: .int .i64 a :: dd 35), [.bx (.ar SI 2 [l.1, l.2])]⟩
def at22 (n : Nat) (l : List Int × List Int) (a : Nat) (r : LP) : St := ⟨(.int .i64 n :: dd 2 ++ .ptr 0 0 [] :: .dead :: .own 1 0 :: .int .i64 a :: dd 35), [.bx (.ar SI 2 [l.1, l.2]), .sc 0 52 P2 r]⟩
def bz22 (n : Nat) (l : List Int × List Int) (a b : Nat) : St := ⟨(.int .i64 n :: dd 2 ++ .ptr 0 0 [] :: .dead :: nl :: .int .i64 a :: .int .i64 b :: dd 34), [.bx (.ar SI 2 [l.1, l.2])]⟩
def bt22 (n : Nat) (l : List Int × List Int) (a : Nat) (r : LP) (b : Nat) : St := ⟨(.int .i64 n :: dd 2 ++ .ptr 0 0 [] :: .dead :: .own 1 0 :: .int .i64 a :: .int .i64 b :: dd 34), [.bx (.ar SI 2 [l.1, l.2]), .sc 0 52 P2 r]⟩
def fb22 (n : Nat) (l : List Int × List Int) (a : Nat) : List Fam := [⟨Nat, fun b => b ≤ n ∧ prK (P62 n (cf l)) 7 (a * 7 + b) = [], bz22 n l a, fun b => n - b, fun _ _ => none⟩, ⟨Nat, fun b => b ≤ n, fun b => bt22 n l a (prK (P62 n (cf l)) 7 (a * 7 + b)) b, fun b => n - b, fun _ _ => none⟩]
def xb22 (n : Nat) (l : List Int × List Int) (a : Nat) : List (List Nat × Ex) := [([0, 3, 5, 6], ⟨2, Unit, fun _ => prK (P62 n (cf l)) 7 (a * 7 + n) = [], fun _ => az22 n l a⟩), ([0, 3, 5, 6], ⟨2, Unit, fun _ => True, fun _ => at22 n l a (prK (P62 n (cf l)) 7 (a * 7 + n))⟩)]
def hb22 (n : Nat) (l : List Int × List Int) (a : Nat) : Hint := ⟨chks 0 [0, 3, 5, 6, 7] (fb22 n l a), (xb22 n l a).map (·.2)⟩
theorem loop22b (n : Nat) (l : List Int × List Int) (hn : n ≤ 7) (g1 : l.1.length < 1000000000000000) (g2 : l.2.length < 1000000000000000) (a : Nat) (ha : a < n) (R : Exit → St → Prop) : LoopOK (X [e59]) L22_2 (hb22 n l a) R := by
 have hP : ∀ b, b < n → (P62 n (cf l)) a b = (!decide (a = b) && (bfB l.1 a b && bfB l.2 a b)) := fun b h1 => by
   have hab := decide_eq_true ha
   have hbn := decide_eq_true h1
   simp only [P46, P62, cf, hab, hbn, Bool.true_and]
 refine loop_fams (X_ok _) [0, 3, 5, 6, 7] (fb22 n l a) (xb22 n l a) 250 ⟨fun (b : Nat) hb => ?_, fun (b : Nat) hb => ?_, trivial⟩
 · refine of_eq (q := (fun (j : Nat) => (fun (h : Prop) => (fun (g : Prop) => (fun (f : Int) => (fun (e : Int) => (fun (i : Int) => (fun (d : Int) => (fun (c : Prop) => h ∧ h ∧ h ∧ (e < f → h ∧ h ∧ h ∧ h ∧ (¬d = e → idxPre (0 : Int) (2 : Nat) ∧ h ∧ h ∧ h ∧ (l.fst.length + 1 ≤ 1000000000000000 ∧ h) ∧ h ∧ h ∧ (bfB l.fst d e = true → idxPre (1 : Int) (2 : Nat) ∧ h ∧ h ∧ h ∧ (l.snd.length + 1 ≤ 1000000000000000 ∧ h) ∧ h ∧ (bfB l.snd d e = true → h ∧ h ∧ h ∧ h ∧ h ∧ sumPre (0 : Nat) [(d, e)].length (nat_lit 16) ∧ h ∧ h ∧ inR .i64 i ∧ h ∧ ((∃ (y : Nat), ((y ≤ n ∧ prK (P62 n (cf l)) j (a * j + y) = []) ∧ n - y < n - b) ∧ (f = f ∧ h ∧ False ∧ d = d ∧ i = (y : Int) ∧ h) ∧ g ∧ h) ∨ ∃ (y : Nat), (y ≤ n ∧ n - y < n - b) ∧ (f = f ∧ h ∧ h ∧ d = d ∧ i = (y : Int) ∧ h) ∧ g ∧ [(d, e)] = prK (P62 n (cf l)) j (a * j + y) ∧ h)) ∧ (bfB l.snd d e = false → c)) ∧ (bfB l.fst d e = false → h ∧ c)) ∧ (¬¬d = e → h ∧ h ∧ h ∧ c)) ∧ (¬e < f → (∃ (y : Unit), prK (P62 n (cf l)) j (a * j + n) = [] ∧ (f = f ∧ h ∧ h ∧ d = d ∧ h) ∧ g ∧ h) ∨ ∃ (y : Unit), h ∧ (f = f ∧ h ∧ False ∧ d = d ∧ h) ∧ g ∧ False)) (h ∧ inR .i64 i ∧ h ∧ ((∃ (y : Nat), ((y ≤ n ∧ prK (P62 n (cf l)) j (a * j + y) = []) ∧ n - y < n - b) ∧ (f = f ∧ h ∧ h ∧ d = d ∧ i = (y : Int) ∧ h) ∧ g ∧ h) ∨ ∃ (y : Nat), (y ≤ n ∧ n - y < n - b) ∧ (f = f ∧ h ∧ False ∧ d = d ∧ i = (y : Int) ∧ h) ∧ g ∧ False))) ((a : Int))) (e + 1)) ((b : Int))) ((n : Int))) ([l.fst, l.snd] = [l.fst, l.snd])) (True)) ((7 : Nat))) (by kernel_rfl) ?_
   simp only [zz]
   obtain ⟨b1, b2⟩ := hb
   refine ⟨fun h1 => ?_, fun h1 => by rwa [show b = n by omega] at b2⟩
   have h1 : b < n := by omega
   have hst := prK_step (P := P62 n (cf l)) (i := a) (j := b) (w := 7) (by omega)
   rw [hP b h1] at hst
   have yes : (!decide (a = b) && (bfB l.1 a b && bfB l.2 a b)) = true → ∃ y : Nat, ((y ≤ n) ∧ n - y < n - b) ∧ (b : Int) + 1 = y ∧ [((a : Int), (b : Int))] = prK (P62 n (cf l)) 7 (a * 7 + y) := fun h => ⟨b + 1, ⟨by omega, by omega⟩, by omega, by rw [hst, if_pos h, b2]; rfl⟩
   have no : (!decide (a = b) && (bfB l.1 a b && bfB l.2 a b)) = false → ∃ y : Nat, (((y ≤ n) ∧ prK (P62 n (cf l)) 7 (a * 7 + y) = []) ∧ n - y < n - b) ∧ (b : Int) + 1 = y := fun h => ⟨b + 1, ⟨⟨by omega, by rw [hst, if_neg (by rw [h]; decide)]; exact b2⟩, by omega⟩, by omega⟩
   have iR := in1 (i := b) (by omega)
   have sP : sumPre 0 [((a : Int), (b : Int))].length 16 := by simp [sumPre]
   clear hst hP b2
   have he1 : l.1.length + 1 ≤ 1000000000000000 := by omega
   have he2 : l.2.length + 1 ≤ 1000000000000000 := by omega
   have j0 := i02
   have j1 := i12
   (repeat' first | with_reducible exact trivial | with_reducible apply And.intro | intro _)
   all_goals first | exact iR | exact sP | assumption | exact yes (by clear yes no; simp_all [Int.ofNat_inj]) | exact no (by clear yes no; simp_all [Int.ofNat_inj])
 · refine of_eq (q := (fun (k : Nat) => (fun (o : LP) => (fun (j : Prop) => (fun (i : Int) => (fun (h : Prop) => (fun (g : Int) => (fun (m : Int) => (fun (f : Int) => (fun (e : LP) => (fun (d : Prop) => (fun (c : Prop) => h ∧ h ∧ h ∧ (g < i → h ∧ h ∧ h ∧ h ∧ (¬f = g → idxPre (0 : Int) (2 : Nat) ∧ h ∧ h ∧ h ∧ (l.fst.length + 1 ≤ 1000000000000000 ∧ h) ∧ h ∧ h ∧ (bfB l.fst f g = true → idxPre (1 : Int) (2 : Nat) ∧ h ∧ h ∧ h ∧ (l.snd.length + 1 ≤ 1000000000000000 ∧ h) ∧ h ∧ (bfB l.snd f g = true → h ∧ h ∧ h ∧ h ∧ h ∧ sumPre (List.length e) [(f, g)].length (nat_lit 16) ∧ h ∧ h ∧ inR .i64 m ∧ h ∧ (d ∨ ∃ (y : Nat), (y ≤ n ∧ n - y < n - b) ∧ (i = i ∧ h ∧ h ∧ f = f ∧ m = (y : Int) ∧ h) ∧ j ∧ e ++ [(f, g)] = prK (P62 n (cf l)) k (a * k + y) ∧ h)) ∧ (bfB l.snd f g = false → c)) ∧ (bfB l.fst f g = false → h ∧ c)) ∧ (¬¬f = g → h ∧ h ∧ h ∧ c)) ∧ (¬g < i → (∃ (y : Unit), o = [] ∧ (i = i ∧ h ∧ False ∧ f = f ∧ h) ∧ j ∧ h) ∨ ∃ (y : Unit), h ∧ (i = i ∧ h ∧ h ∧ f = f ∧ h) ∧ j ∧ e = o ∧ h)) (h ∧ inR .i64 m ∧ h ∧ (d ∨ ∃ (y : Nat), (y ≤ n ∧ n - y < n - b) ∧ (i = i ∧ h ∧ h ∧ f = f ∧ m = (y : Int) ∧ h) ∧ j ∧ e = prK (P62 n (cf l)) k (a * k + y) ∧ h))) (∃ (y : Nat), ((y ≤ n ∧ prK (P62 n (cf l)) k (a * k + y) = []) ∧ n - y < n - b) ∧ (i = i ∧ h ∧ False ∧ f = f ∧ m = (y : Int) ∧ h) ∧ j ∧ h)) (prK (P62 n (cf l)) k (a * k + b))) ((a : Int))) (g + 1)) ((b : Int))) (True)) ((n : Int))) ([l.fst, l.snd] = [l.fst, l.snd])) (prK (P62 n (cf l)) k (a * k + n))) ((7 : Nat))) (by kernel_rfl) ?_
   simp only [zz]
   have b1 : b ≤ n := hb
   have hlen := prK_len (P62 n (cf l)) 7 (a * 7 + b)
   refine ⟨fun h1 => ?_, fun h1 => by rw [show b = n by omega]⟩
   have h1 : b < n := by omega
   have hst := prK_step (P := P62 n (cf l)) (i := a) (j := b) (w := 7) (by omega)
   rw [hP b h1] at hst
   have yes : (!decide (a = b) && (bfB l.1 a b && bfB l.2 a b)) = true → ∃ y : Nat, ((y ≤ n) ∧ n - y < n - b) ∧ (b : Int) + 1 = y ∧ prK (P62 n (cf l)) 7 (a * 7 + b) ++ [((a : Int), (b : Int))] = prK (P62 n (cf l)) 7 (a * 7 + y) := fun h => ⟨b + 1, ⟨by omega, by omega⟩, by omega, by rw [hst, if_pos h]⟩
   have no : (!decide (a = b) && (bfB l.1 a b && bfB l.2 a b)) = false → ∃ y : Nat, ((y ≤ n) ∧ n - y < n - b) ∧ (b : Int) + 1 = y ∧ prK (P62 n (cf l)) 7 (a * 7 + b) = prK (P62 n (cf l)) 7 (a * 7 + y) := fun h => ⟨b + 1, ⟨by omega, by omega⟩, by omega, by rw [hst, if_neg (by rw [h]; decide)]⟩
   have iR := in1 (i := b) (by omega)
   have sP : sumPre (prK (P62 n (cf l)) 7 (a * 7 + b)).length [((a : Int), (b : Int))].length 16 := by unfold sumPre; simp; omega
   clear hst hP
   have he1 : l.1.length + 1 ≤ 1000000000000000 := by omega
   have he2 : l.2.length + 1 ≤ 1000000000000000 := by omega
   have j0 := i02
   have j1 := i12
   (repeat' first | with_reducible exact trivial | with_reducible apply And.intro | intro _)
   all_goals first | exact iR | exact sP | assumption | exact yes (by clear yes no; simp_all [Int.ofNat_inj]) | exact no (by clear yes no; simp_all [Int.ofNat_inj])
def fa22 (n : Nat) (l : List Int × List Int) : List Fam := [⟨Nat, fun a => a ≤ n ∧ prK (P62 n (cf l)) 7 (a * 7) = [], az22 n l, fun a => n - a, fun a _ => some (hb22 n l a)⟩, ⟨Nat, fun a => a ≤ n, fun a => at22 n l a (prK (P62 n (cf l)) 7 (a * 7)), fun a => n - a, fun a _ => some (hb22 n l a)⟩]
def xa22 (n : Nat) (l : List Int × List Int) : List (List Nat × Ex) := [([5], ⟨0, Unit, fun _ => L62 n (cf l) = [], fun _ => ⟨(dd 5 ++ nl :: dd 36), []⟩⟩), ([5], ⟨0, Unit, fun _ => True, fun _ => ⟨(dd 5 ++ .own 0 0 :: dd 36), [.sc 0 52 P2 (L62 n (cf l))]⟩⟩)]
def ha22 (n : Nat) (l : List Int × List Int) : Hint := ⟨chks 0 [0, 3, 5, 6] (fa22 n l), (xa22 n l).map (·.2)⟩
theorem loop22a (n : Nat) (l : List Int × List Int) (hn : n ≤ 7) (g1 : l.1.length < 1000000000000000) (g2 : l.2.length < 1000000000000000) (R : Exit → St → Prop) : LoopOK (X [e59]) L22_0 (ha22 n l) R := by
 have hrow : ∀ a, prK (P62 n (cf l)) 7 (a * 7 + n) = prK (P62 n (cf l)) 7 ((a + 1) * 7) := fun a => by
   rw [Nat.succ_mul]
   exact (prK_row hn (by omega) fun j h1 h2 => by simp only [P46, P62]; simp; omega).symm
 have hbeg : ∀ a, a < n → prK (P62 n (cf l)) 7 (a * 7) = prK (P62 n (cf l)) 7 (a * 7 + 0) := fun a ha => (prK_row (b := 0) (by omega) (by omega) fun j h1 h2 => by simp only [P46, P62]; simp; omega).symm
 have hall : prK (P62 n (cf l)) 7 (n * 7) = L62 n (cf l) := prK_rows hn fun i j h => by simp only [P46, P62]; simp; omega
 refine loop_fams (X_ok _) [0, 3, 5, 6] (fa22 n l) (xa22 n l) 250 ⟨fun (a : Nat) ha => ?_, fun (a : Nat) ha => ?_, trivial⟩
 · have hL := fun h1 R => loop22b n l hn g1 g2 a h1 R
   have hrow := hrow a
   have hbeg := hbeg a
   refine of_eq (q := (fun (f : Nat) => (fun (h : LP) => (fun (e : Prop) => (fun (d : Int) => (fun (g : Int) => (fun (c : Prop) => (fun (b : Int) => e ∧ e ∧ e ∧ (d < b → e ∧ LoopOK (X [e59]) L22_2 (hb22 n l a) (bodyR (X [e59]).m0 (xa22 n l) R) ∧ ((∃ (y : Nat), (y ≤ n ∧ prK (P62 n (cf l)) f (a * f + y) = []) ∧ (b = b ∧ e ∧ e ∧ d = d ∧ (0 : Int) = (y : Int) ∧ e) ∧ c ∧ e) ∨ ∃ (y : Nat), y ≤ n ∧ (b = b ∧ e ∧ False ∧ d = d ∧ (0 : Int) = (y : Int) ∧ e) ∧ c ∧ False) ∧ (∀ (y : Unit), h = [] → e ∧ inR .i64 g ∧ e ∧ ((∃ (y : Nat), ((y ≤ n ∧ prK (P62 n (cf l)) f (y * f) = []) ∧ n - y < n - a) ∧ (b = b ∧ e ∧ e ∧ g = (y : Int) ∧ e) ∧ c ∧ e) ∨ ∃ (y : Nat), (y ≤ n ∧ n - y < n - a) ∧ (b = b ∧ e ∧ False ∧ g = (y : Int) ∧ e) ∧ c ∧ False)) ∧ (∀ (y : Unit), e → e ∧ inR .i64 g ∧ e ∧ ((∃ (y : Nat), ((y ≤ n ∧ prK (P62 n (cf l)) f (y * f) = []) ∧ n - y < n - a) ∧ (b = b ∧ e ∧ False ∧ g = (y : Int) ∧ e) ∧ c ∧ e) ∨ ∃ (y : Nat), (y ≤ n ∧ n - y < n - a) ∧ (b = b ∧ e ∧ e ∧ g = (y : Int) ∧ e) ∧ c ∧ h = prK (P62 n (cf l)) f (y * f) ∧ e)) ∧ e) ∧ (¬d < b → (∃ (y : Unit), L62 n (cf l) = [] ∧ (e ∧ e) ∧ e) ∨ ∃ (y : Unit), e ∧ (False ∧ e) ∧ False)) ((n : Int))) ([l.fst, l.snd] = [l.fst, l.snd])) (d + 1)) ((a : Int))) (True)) (prK (P62 n (cf l)) f (a * f + n))) ((7 : Nat))) (by kernel_rfl) ?_
   simp only [zz]
   obtain ⟨a1, a2⟩ := ha
   have z0 : a < n → ∃ y : Nat, ((y ≤ n) ∧ prK (P62 n (cf l)) 7 (a * 7 + y) = []) ∧ (0 : Int) = y := fun h => ⟨0, ⟨by omega, by rw [← hbeg h]; exact a2⟩, by omega⟩
   refine ⟨fun h1 => ⟨hL (by omega) _, z0 (by omega), fun _ h2 => ⟨in1 (by omega), a + 1, ⟨⟨by omega, by rw [← hrow]; exact h2⟩, by omega⟩, by omega⟩, fun _ _ => ⟨in1 (by omega), a + 1, ⟨by omega, by omega⟩, by omega, hrow⟩⟩, fun h1 => ?_⟩
   have e0 : a = n := by omega
   rw [← hall]; rw [e0] at a2; exact a2
 · have hL := fun h1 R => loop22b n l hn g1 g2 a h1 R
   have hrow := hrow a
   have hbeg := hbeg a
   refine of_eq (q := (fun (f : Prop) => (fun (e : Int) => (fun (g : Int) => (fun (d : Nat) => (fun (i : LP) => (fun (h : LP) => (fun (c : Prop) => (fun (b : Int) => f ∧ f ∧ f ∧ (e < b → f ∧ LoopOK (X [e59]) L22_2 (hb22 n l a) (bodyR (X [e59]).m0 (xa22 n l) R) ∧ ((∃ (y : Nat), (y ≤ n ∧ prK (P62 n (cf l)) d (a * d + y) = []) ∧ (b = b ∧ f ∧ False ∧ e = e ∧ (0 : Int) = (y : Int) ∧ f) ∧ c ∧ f) ∨ ∃ (y : Nat), y ≤ n ∧ (b = b ∧ f ∧ f ∧ e = e ∧ (0 : Int) = (y : Int) ∧ f) ∧ c ∧ i = prK (P62 n (cf l)) d (a * d + y) ∧ f) ∧ (∀ (y : Unit), h = [] → f ∧ inR .i64 g ∧ f ∧ ((∃ (y : Nat), ((y ≤ n ∧ prK (P62 n (cf l)) d (y * d) = []) ∧ n - y < n - a) ∧ (b = b ∧ f ∧ f ∧ g = (y : Int) ∧ f) ∧ c ∧ f) ∨ ∃ (y : Nat), (y ≤ n ∧ n - y < n - a) ∧ (b = b ∧ f ∧ False ∧ g = (y : Int) ∧ f) ∧ c ∧ False)) ∧ (∀ (y : Unit), f → f ∧ inR .i64 g ∧ f ∧ ((∃ (y : Nat), ((y ≤ n ∧ prK (P62 n (cf l)) d (y * d) = []) ∧ n - y < n - a) ∧ (b = b ∧ f ∧ False ∧ g = (y : Int) ∧ f) ∧ c ∧ f) ∨ ∃ (y : Nat), (y ≤ n ∧ n - y < n - a) ∧ (b = b ∧ f ∧ f ∧ g = (y : Int) ∧ f) ∧ c ∧ h = prK (P62 n (cf l)) d (y * d) ∧ f)) ∧ f) ∧ (¬e < b → (∃ (y : Unit), L62 n (cf l) = [] ∧ (False ∧ f) ∧ f) ∨ ∃ (y : Unit), f ∧ (f ∧ f) ∧ i = L62 n (cf l) ∧ f)) ((n : Int))) ([l.fst, l.snd] = [l.fst, l.snd])) (prK (P62 n (cf l)) d (a * d + n))) (prK (P62 n (cf l)) d (a * d))) ((7 : Nat))) (e + 1)) ((a : Int))) (True)) (by kernel_rfl) ?_
   simp only [zz]
   have a1 : a ≤ n := ha
   refine ⟨fun h1 => ⟨hL (by omega) _, ⟨0, by omega, rfl, hbeg (by omega)⟩, fun _ h2 => ⟨in1 (by omega), a + 1, ⟨⟨by omega, by rw [← hrow]; exact h2⟩, by omega⟩, by omega⟩, fun _ _ => ⟨in1 (by omega), a + 1, ⟨by omega, by omega⟩, by omega, hrow⟩⟩, fun h1 => ?_⟩
   have e0 : a = n := by omega
   rw [← hall, e0]
theorem call22 (n : Nat) (hn : n ≤ 7) (l : List Int × List Int) (h1 : l.1.length < 1000000000000000) (h2 : l.2.length < 1000000000000000) : GCall Try.prog gl 22 true [.int .i64 n, .ar SI 2 [l.1, l.2]] [] [.sl P2 (L62 n (cf l))] [] := by
 refine gcall_of (X := (X [e59])) ((X_ok _)) (f := 22) (fn := Try.f22) (c := bodyOf Try.f22) (by kernel_rfl) (by kernel_rfl) (view := true) (rvs := [.tmp 4]) (by kernel_rfl) (H := (fun _ => some (ha22 n l))) 150 (by kernel_rfl) ?_
 have hL := fun R => loop22a n l hn h1 h2 R
 refine of_eq (q := (fun (c : List (List Int)) => (fun (b : Prop) => (fun (a : LP) => b ∧ b ∧ b ∧ b ∧ LoopOK (X [e59]) L22_0 (ha22 n l) (RetR (X [e59]) true true [ResultVar.tmp (4 : Tmp)] [AV.sl P2 a] []) ∧ ((∃ (y : Nat), (y ≤ n ∧ prK (P62 n (cf l)) (7 : Nat) (y * 7) = []) ∧ ((n : Int) = (n : Int) ∧ b ∧ b ∧ (0 : Int) = (y : Int) ∧ b) ∧ c = c ∧ b) ∨ ∃ (y : Nat), y ≤ n ∧ ((n : Int) = (n : Int) ∧ b ∧ False ∧ (0 : Int) = (y : Int) ∧ b) ∧ c = c ∧ False) ∧ (∀ (y : Unit), a = [] → b ∧ b ∧ b ∧ (([] : List (Int × Int)) = a ∧ b) ∧ b) ∧ (∀ (y : Unit), b → b ∧ b ∧ b ∧ (a = a ∧ b) ∧ b) ∧ b) (L62 n (cf l))) (True)) ([l.fst, l.snd])) (by kernel_rfl) ?_
 simp only [zz]
 exact ⟨hL _, ⟨0, ⟨Nat.zero_le _, rfl⟩, rfl⟩, fun _ h => h.symm, fun _ _ => trivial⟩
def e22 : Entry Try.prog gl := entry2 22 ⟨Try.f22, by kernel_rfl, by kernel_rfl, by kernel_rfl⟩ I64 (.a2 SI) (fun (n : Int) (l : List Int × List Int) => ((0 ≤ n ∧ n ≤ 7) ∧ l.1.length < 1000000000000000) ∧ l.2.length < 1000000000000000) true (fun (n : Int) (l : List Int × List Int) => [.sl P2 (L62 n.toNat (cf l))]) (fun _ _ => []) (fun (n : Int) (l : List Int × List Int) h => by
 have := call22 n.toNat (by omega) l h.1.2 h.2
 rwa [Int.toNat_of_nonneg h.1.1.1] at this)
end Go.Am.Or

/- Orders: the reference: whether two lists have all nodes, each once. -/
namespace Go.Am.Or
open Go Go.Am Go.Proofs
def mtK (l : List Int) : Nat → Nat
 | 0 => 0
 | i + 1 => mtK l i ||| 2 ^ (l.getD i 0).toNat
noncomputable def L17_0 : Code := lp (bodyOf Try.f17) 0
noncomputable def L17_2 : Code := lp (bodyOf Try.f17) 2
abbrev bsL (l : List Int × List Int) : List (List Int) := [l.1, l.2]
def lnB (n : Int) (l : List Int × List Int) : Bool := plB n l.1 && plB n l.2
def sa17 (n : Int) (l : List Int × List Int) (k : Nat) : St := ⟨(.int .i64 n :: dd 2 ++ .ptr 0 0 [] :: .dead :: .int .i64 k :: dd 51), [.bx (.ar SI 2 (bsL l))]⟩
def xa17 (n : Int) (l : List Int × List Int) : List (List Nat × Ex) := [([0], ⟨0, Unit, fun _ => lnB n l = true, fun _ => ⟨(.int .i64 n :: dd 56), []⟩⟩)]
def ia17 (n : Int) (l : List Int × List Int) (k : Nat) : Prop := k ≤ 2 ∧ ∀ j, j < k → plB n ((bsL l).getD j []) = true
def ha17 (n : Int) (l : List Int × List Int) : Hint := ⟨chk 0 [0, 3, 5] (ia17 n l) (sa17 n l), (xa17 n l).map (·.2)⟩
def sb17 (n : Int) (l : List Int × List Int) (k i : Nat) : St := ⟨(.int .i64 n :: dd 2 ++ .ptr 0 0 [] :: .dead :: .int .i64 k :: .int .i64 (mtK ((bsL l).getD k []) i) :: .int .i64 i :: dd 49), [.bx (.ar SI 2 (bsL l))]⟩
def ib17 (n : Int) (l : List Int × List Int) (k i : Nat) : Prop := i ≤ ((bsL l).getD k []).length ∧ plK n ((bsL l).getD k []) i
def xb17 (n : Int) (l : List Int × List Int) (k : Nat) : List (List Nat × Ex) := [([0, 3, 5], ⟨2, Unit, fun _ => plK n ((bsL l).getD k []) ((bsL l).getD k []).length, fun _ => sa17 n l k⟩)]
def hb17 (n : Int) (l : List Int × List Int) (k : Nat) : Hint := ⟨chk 0 [0, 3, 5, 6, 7] (ib17 n l k) (sb17 n l k), (xb17 n l k).map (·.2)⟩
noncomputable def R17 (n : Int) (l : List Int × List Int) : Exit → St → Prop := RetR (X []) true false [.tmp 4] [.bool (lnB n l)] []
structure p17 (n : Int) (l : List Int × List Int) : Prop where
 n1 : 1 ≤ n
 n7 : n ≤ 7
 h1 : l.1.length < 1000000000000000
 h2 : l.2.length < 1000000000000000
theorem ofInt_nat {w : Nat} (a : Nat) : BitVec.ofInt w (a : Int) = BitVec.ofNat w a := by
 rw [BitVec.ofInt_natCast]
theorem wrap_nat {n : Nat} (h : n < 9223372036854775808) : IntKind.wrap .i64 (n : Int) = n := wrap_inR (by simp only [inR]; omega)
theorem bOr_nat {a b : Nat} (ha : a < 9223372036854775808) (hb : b < 9223372036854775808) : bOr .i64 a b = ((a ||| b : Nat) : Int) := by
 unfold bOr
 show IntKind.wrap .i64 (((BitVec.ofInt 64 (a : Int)) ||| (BitVec.ofInt 64 (b : Int))).toNat : Int) = _
 rw [ofInt_nat, ofInt_nat, BitVec.toNat_or, BitVec.toNat_ofNat, BitVec.toNat_ofNat, Nat.mod_eq_of_lt (by omega), Nat.mod_eq_of_lt (by omega), wrap_nat]
 exact Nat.or_lt_two_pow (n := 63) ha hb
theorem mtK_bit {n : Int} (hn : n ≤ 7) {l : List Int} : ∀ {i : Nat}, i ≤ l.length → plK n l i → mtK l i < 128 ∧ ∀ v : Nat, (mtK l i).testBit v = decide ((v : Int) ∈ l.take i)
 | 0, _, _ => ⟨by unfold mtK; omega, fun v => by simp [mtK]⟩
 | i + 1, hi, h => by
   have ⟨h1, h2⟩ := mtK_bit hn (i := i) (by omega) fun j hj => h j (by omega)
   have h3 := (h i (by omega)).1
   refine ⟨?_, fun v => ?_⟩
   · rw [mtK]
     exact Nat.or_lt_two_pow (n := 7) h1 (Nat.pow_lt_pow_right (a := 2) (m := (l.getD i 0).toNat) (n := 7) (by decide) (by omega))
   · rw [mtK, Nat.testBit_or, h2 v, Nat.testBit_two_pow, take_getD (d := 0) (show i < l.length by omega)]
     rw [Bool.eq_iff_iff]
     simp only [Bool.or_eq_true, decide_eq_true_eq, List.mem_append, List.mem_singleton]
     refine or_congr Iff.rfl ⟨fun h => by omega, fun h => by omega⟩
theorem mtK_tmod {m v : Nat} : (((m : Int) / 2 ^ v).tmod 2 = 1) ↔ m.testBit v = true := by
 rw [show ((2 : Int) ^ v) = ((2 ^ v : Nat) : Int) by rw [Int.natCast_pow]; rfl, ← Int.natCast_ediv, Nat.testBit_eq_decide_div_mod_eq, decide_eq_true_eq]
 generalize m / 2 ^ v = q
 rw [Int.tmod_eq_emod_of_nonneg (by omega)]
 omega
theorem lnB_no {n : Int} {l : List Int × List Int} {k : Nat} (hk : k < 2) (h : plB n ((bsL l).getD k []) = false) : false = lnB n l := by
 unfold lnB
 match k, hk with
 | 0, _ => rw [show plB n l.1 = false from h]; try rfl
 | 1, _ => rw [show plB n l.2 = false from h]; simp
theorem loop17b (n : Int) (l : List Int × List Int) (h : p17 n l) (k : Nat) (hk : k < 2) : LoopOK (X []) L17_2 (hb17 n l k) (bodyR 0 (xa17 n l) (R17 n l)) := by
 refine loop_ok (X_ok _) (H := fun _ _ => none) [0, 3, 5, 6, 7] (ib17 n l k) (sb17 n l k) (fun i => ((bsL l).getD k []).length - i) (xb17 n l k) 250 fun (i : Nat) hi => ?_
 refine of_eq (q := (fun (o : Int) => (fun (h : Int) => (fun (c : Prop) => (fun (d : Prop) => (fun (b : List (List Int)) => (fun (j : Prop) => (fun (g : List Int) => (fun (a : Int) => (fun (m : Prop) => (fun (f : Int) => (fun (e : Prop) => c ∧ c ∧ idxPre h (2 : Nat) ∧ c ∧ c ∧ c ∧ (j → c ∧ idxPre h (2 : Nat) ∧ c ∧ c ∧ idxPre (i : Int) (List.length (b.getD k [])) ∧ c ∧ c ∧ c ∧ c ∧ c ∧ (a < o → c ∧ c ∧ c ∧ d) ∧ (¬a < o → c ∧ c ∧ c ∧ c ∧ c ∧ (n ≤ a → c ∧ d) ∧ (¬n ≤ a → c ∧ c ∧ m ∧ ¬(2 : Int) = o ∧ c ∧ c ∧ (e → d) ∧ (¬e → c ∧ c ∧ (m ∧ (-9223372036854775808 : Int) ≤ f ∧ f ≤ 9223372036854775807) ∧ c ∧ c ∧ c ∧ inR .i64 ((i : Int) + 1) ∧ c ∧ ∃ (y : Nat), (ib17 n l k y ∧ g.length - y < g.length - i) ∧ (n = n ∧ c ∧ h = h ∧ bOr .i64 (↑(mtK g i) : Int) f = (↑(mtK g y) : Int) ∧ (i : Int) + 1 = (y : Int) ∧ c) ∧ b = b ∧ c)))) ∧ (¬j → ∃ (y : Unit), plK n g g.length ∧ (n = n ∧ c ∧ h = h ∧ c) ∧ b = b ∧ c)) (((↑(mtK g i) : Int) / (2 : Int) ^ a.toNat).tmod (2 : Int) = 1)) ((1 : Int) * 2 ^ a.toNat)) (o ≤ a ∧ a < bitsOf .i64)) (List.getD (b.getD k []) i o)) (b.getD k [])) ((i : Int) < (↑(List.length (b.getD k [])) : Int))) (bsL l)) (c ∧ c ∧ (false = lnB n l ∧ c) ∧ c)) (True)) ((k : Int))) ((0 : Int))) (by kernel_rfl) ?_
 simp only [zz]
 obtain ⟨hi1, hi2⟩ := hi
 have hm := h.n7
 have hl : ((bsL l).getD k []).length < 1000000000000000 := match k, hk with | 0, _ => h.h1 | 1, _ => h.h2
 have no := fun (h1 : i < ((bsL l).getD k []).length) h2 => (lnB_no (n := n) (l := l) hk (plB_no h1 h2))
 generalize hLe : (bsL l).getD k [] = L at *
 have ⟨hb1, hb2⟩ := mtK_bit hm hi1 hi2
 refine ⟨⟨by omega, by omega⟩, fun h1 => ⟨⟨by omega, by omega⟩, ⟨by omega, by omega⟩, fun h2 => no (by omega) fun h3 => by omega, fun h2 => ⟨fun h3 => no (by omega) fun h4 => by omega, fun h3 => ?_⟩⟩, fun h1 => by rw [show i = L.length by omega] at hi2; exact hi2⟩
 obtain ⟨v, hv⟩ : ∃ v : Nat, L.getD i 0 = (v : Int) := ⟨(L.getD i 0).toNat, by omega⟩
 have hx : v < 7 := by omega
 have e5 : (L.getD i 0).toNat = v := by omega
 have hP : 2 ^ v < 128 := Nat.pow_lt_pow_right (a := 2) (m := v) (n := 7) (by decide) hx
 have hP2 : ((2 : Int) ^ v) = ((2 ^ v : Nat) : Int) := by rw [Int.natCast_pow]; try rfl
 have hR : (-9223372036854775808 : Int) ≤ 1 * 2 ^ v ∧ (1 : Int) * 2 ^ v ≤ 9223372036854775807 := by
   rw [hP2]
   generalize 2 ^ v = P at hP
   omega
 have hO : bOr .i64 (mtK L i : Int) (1 * 2 ^ v) = (mtK L (i + 1) : Nat) := by
   rw [hP2, Int.one_mul, bOr_nat (by omega) (by generalize 2 ^ v = P at hP; omega), mtK, e5]
 have hbits : L.getD i 0 < bitsOf .i64 := by show L.getD i 0 < 64; omega
 rw [mtK_tmod, e5, hb2, decide_eq_true_eq]
 have hk2 : ¬ (v : Int) ∈ L.take i → plK n L (i + 1) := fun h4 j hj => by
   by_cases e : j = i
   · rw [e, hv]; exact ⟨by omega, h4⟩
   · exact hi2 j (by omega)
 refine ⟨⟨by omega, hbits⟩, by omega, fun h4 => no (by omega) fun h5 => h5.2 (by rw [hv]; exact h4), fun h4 => ⟨⟨⟨by omega, hbits⟩, hR.1, hR.2⟩, by simp only [inR]; omega, i + 1, ⟨by unfold ib17; rw [hLe]; exact ⟨by omega, hk2 h4⟩, by omega⟩, ?_, by omega⟩⟩
 exact hO
theorem loop17a (n : Int) (l : List Int × List Int) (h : p17 n l) : LoopOK (X []) L17_0 (ha17 n l) (R17 n l) := by
 refine loop_ok (X_ok _) (H := fun k _ => some (hb17 n l k)) [0, 3, 5] (ia17 n l) (sa17 n l) (fun k => 2 - k) (xa17 n l) 250 fun (k : Nat) hk => ?_
 have hL := fun hk => loop17b n l h k hk
 refine of_eq (q := (fun (c : Prop) => (fun (b : Int) => (fun (a : List (List Int)) => (fun (d : Prop) => c ∧ c ∧ (b < 2 → c ∧ c ∧ LoopOK (X []) L17_2 (hb17 n l k) (bodyR (0 : Nat) (xa17 n l) (R17 n l)) ∧ (∃ (y : Nat), ib17 n l k y ∧ (n = n ∧ c ∧ b = b ∧ (0 : Int) = (↑(mtK (a.getD k []) y) : Int) ∧ (0 : Int) = (y : Int) ∧ c) ∧ a = a ∧ c) ∧ (∀ (y : Unit), plK n (a.getD k []) (a.getD k []).length → c ∧ idxPre b (2 : Nat) ∧ c ∧ c ∧ c ∧ c ∧ (d → c ∧ c ∧ (false = lnB n l ∧ c) ∧ c) ∧ (¬d → c ∧ inR .i64 (b + 1) ∧ c ∧ ∃ (y : Nat), (ia17 n l y ∧ (2 : Nat) - y < 2 - k) ∧ (n = n ∧ c ∧ b + 1 = (y : Int) ∧ c) ∧ a = a ∧ c)) ∧ c) ∧ (¬b < 2 → ∃ (y : Unit), lnB n l = true ∧ (n = n ∧ c) ∧ c)) (¬(↑(List.length (a.getD k [])) : Int) = n)) (bsL l)) ((k : Int))) (True)) (by kernel_rfl) ?_
 simp only [zz]
 obtain ⟨hk1, hk2⟩ := hk
 refine ⟨fun h1 => ?_, fun h1 => ?_⟩
 · have hk : k < 2 := by omega
   have no := fun h2 => (lnB_no (n := n) (l := l) hk (decide_eq_false h2))
   refine ⟨hL (by omega), ⟨0, ⟨Nat.zero_le _, fun j hj => absurd hj (by omega)⟩, rfl, rfl⟩, fun _ hp => ⟨⟨by omega, by omega⟩, fun h2 => no fun h3 => h2 h3.1, fun h2 => ⟨by simp only [inR]; omega, k + 1, ⟨⟨by omega, fun j hj => ?_⟩, by omega⟩, by omega⟩⟩⟩
   by_cases e : j = k
   · rw [e]; exact decide_eq_true ⟨Decidable.not_not.1 h2, hp⟩
   · exact hk2 j (by omega)
 · unfold lnB
   rw [show plB n l.1 = true from hk2 0 (by omega), show plB n l.2 = true from hk2 1 (by omega)]; try rfl
theorem call17 (n : Int) (l : List Int × List Int) (h : p17 n l) : GCall Try.prog gl 17 true [.int .i64 n, .ar SI 2 (bsL l)] [] [.bool (lnB n l)] [] := by
 refine gcall_of (X := X []) (X_ok []) (f := 17) (fn := Try.f17) (c := bodyOf Try.f17) (by kernel_rfl) (by kernel_rfl) (view := false) (rvs := [.tmp 4]) (by kernel_rfl) (H := (fun _ => some (ha17 n l))) 100 (by kernel_rfl) ?_
 have hL := loop17a n l h
 refine of_eq (q := (fun (a : Prop) => a ∧ a ∧ a ∧ LoopOK (X []) L17_0 (ha17 n l) (R17 n l) ∧ (∃ (y : Nat), ia17 n l y ∧ (n = n ∧ a ∧ (0 : Int) = (y : Int) ∧ a) ∧ bsL l = bsL l ∧ a) ∧ (∀ (y : Unit), lnB n l = true → a ∧ a ∧ a ∧ ((1 : Int) ≤ n → a ∧ a ∧ a ∧ a ∧ a ∧ (decide (n ≤ 7) = lnB n l ∧ a) ∧ a) ∧ (¬(1 : Int) ≤ n → a ∧ a ∧ a ∧ (false = lnB n l ∧ a) ∧ a)) ∧ a) (True)) (by kernel_rfl) ?_
 simp only [zz]
 exact ⟨hL, ⟨0, ⟨Nat.zero_le _, fun j hj => absurd hj (by omega)⟩, rfl⟩, fun _ h1 => ⟨fun _ => by rw [h1]; exact decide_eq_true h.n7, fun h2 => absurd h.n1 h2⟩⟩
def e17 : Entry Try.prog gl := entry2 17 ⟨Try.f17, by kernel_rfl, by kernel_rfl, by kernel_rfl⟩ I64 (.a2 SI) (fun n l => p17 n l) true (fun n l => [.bool (lnB n l)]) (fun _ _ => []) (call17)
end Go.Am.Or
