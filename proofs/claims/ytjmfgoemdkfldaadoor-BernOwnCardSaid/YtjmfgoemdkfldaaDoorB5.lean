/- Part B5 of the proof that the law named in the last file returns true at every input and leaves its arguments as they were; no condition of its own. -/
import Derived.Test.YtjmfgoemdkfldaaDoorB4
import Derived.Test.YtjmfgoemdkfldaaDoorA2
import Derived.Test.YtjmfgoemdkfldaaDoorB3
import Derived.Test.YtjmfgoemdkfldaaDoorRows
import Derived.WalkKit
import Derived.ProofKit
import Derived.OpenShut
import Derived.LaidMore
import Derived.ChangeOld
import Derived.Below
import Derived.SevenTiedAt
import Derived.Stop.Joined
set_option linter.unusedSimpArgs false
set_option linter.unusedVariables false
/- Bern: the law of own results. -/
namespace Go.Am.Bern
open Go Go.Am Go.Proofs
def z49 : Entry Tryd.prog gl := entry2 49 ⟨Tryd.f49, by kernel_rfl, by kernel_rfl, by kernel_rfl⟩ SI SI (fun a b => (a : List Int).length < 1000000000000000 /\ a = b) true (fun _ _ => [.tt]) (fun _ _ => []) (fun a b h => by
 have := call49 a b h.1
 rw [decide_eq_true h.2] at this
 exact this.lit)
def z15 : Entry Tryd.prog gl := entry2 15 ⟨Tryd.f15, by kernel_rfl, by kernel_rfl, by kernel_rfl⟩ SQ SQ (fun a b => (a : List PQ).length < 1000000 /\ a = b) true (fun _ _ => [.tt]) (fun _ _ => []) (fun a b h => by
 have := call15 a b h.1
 rw [decide_eq_true h.2] at this
 exact this.lit)
def m32 : Entry Tryd.prog gl := entry1 32 ⟨Tryd.f32, by kernel_rfl, by kernel_rfl, by kernel_rfl⟩ SI (fun p => (isPoly p /\ p.length < 1000000) /\ ¬ coefs (mir p)) false (fun _ => [.sl I64 [], .int .i64 8]) (fun _ => []) (fun p h => by
 have := call32 p h.1.2
 rwa [show mirR p = [] by simp [mirR, smallR, h.1.1, h.2], show mirE p = 8 by simp [mirE, smallE, h.1.1, h.2]] at this)
noncomputable def L9_0 : Code := lp (bodyOf Tryd.f9) 0
noncomputable def L9_2 : Code := lp (bodyOf Tryd.f9) 2
noncomputable def L9_4 : Code := lp (bodyOf Tryd.f9) 4
def hs9 (t : Nat) : Bool := Nat.beq t 11 || (Nat.beq t 29 || Nat.beq t 59)
noncomputable abbrev X9 : Cy := Xo [e12v, e48, e42, e32o, e35o, e34o, e34, z49, z15, e39, e18] 0 hs9 (fun _ => none)
abbrev L3 := List PQ × List PQ × List PQ
def PP4 (p q : List Int) (x : List PQ) : List AV := [.sl I64 p, .sl I64 q, .sl Q2 x, .own 0 0]
def sa9 (p q : List Int) (x b0 b1 d : List PQ) (y : List Int × Nat) : St := ⟨dd 5 ++ PP4 p q x ++ .own 1 0 :: .int .i64 0 :: .ptr 2 0 [] :: .int .i64 0 :: .own 5 0 :: .int .i64 0 :: .int .i64 y.2 :: dd 106, [oQ x, oI y.1, .bx (.agg [.own 3 0, .own 4 0]), oQ b0, oQ b1, oQ d]⟩
def xs9 (p q : List Int) (x b0 b1 d : List PQ) (e : Int) : St := ⟨dd 5 ++ PP4 p q x ++ .dead :: .int .i64 e :: .ptr 1 0 [] :: .int .i64 0 :: .own 4 0 :: .int .i64 0 :: dd 107, [oQ x, .bx (.agg [.own 2 0, .own 3 0]), oQ b0, oQ b1, oQ d]⟩
def ia9 (y : List Int × Nat) : Prop := y.2 <= y.1.length /\ y.1.length < 1000000
def xa9 (p q : List Int) (x b0 b1 d : List PQ) (e : Int) : List (List Nat × Ex) := [([5, 6, 7, 8, 10, 11, 12, 13, 14], ⟨0, Unit, fun _ => True, fun _ => xs9 p q x b0 b1 d e⟩)]
def ha9 (p q : List Int) (x b0 b1 d : List PQ) : Hint := ⟨chk 0 [5, 6, 7, 8, 9, 10, 11, 12, 13, 14, 15] ia9 (sa9 p q x b0 b1 d), (xa9 p q x b0 b1 d 0).map (·.2)⟩
theorem loop9a (p q : List Int) (x b0 b1 d : List PQ) (R : Exit -> St -> Prop) : LoopOK X9 L9_0 (ha9 p q x b0 b1 d) R := by
 refine loop_ok (Xo_ok _ _ _ _) (H := fun _ _ => none) [5, 6, 7, 8, 9, 10, 11, 12, 13, 14, 15] ia9 (sa9 p q x b0 b1 d) (fun y => y.1.length - y.2) (xa9 p q x b0 b1 d 0) 150 fun (y : List Int × Nat) hy => ?_
 refine of_eq (q := (fun (c : Int) => (fun (b : Prop) => (fun (e : Prop) => (fun (a : Prop) => b /\ b /\ b /\ b /\ (c < (y.fst.length : Int) -> b /\ b /\ idxPre c y.fst.length /\ b /\ b /\ inR .i64 (c + 1) /\ b /\ ∃ (y_1 : List Int × Nat), (ia9 y_1 /\ y_1.fst.length - y_1.snd < y.fst.length - y.snd) /\ (p = p /\ q = q /\ x = x /\ b /\ b /\ a /\ b /\ a /\ b /\ a /\ c + 1 = (y_1.snd : Int) /\ b) /\ x = x /\ y.fst.set y.snd (-7 : Int) = y_1.fst /\ e) /\ (¬c < (y.fst.length : Int) -> ∃ (y : Unit), b /\ (p = p /\ q = q /\ x = x /\ b /\ a /\ b /\ a /\ b /\ a /\ b) /\ x = x /\ e)) ((0 : Int) = 0)) ((b /\ b /\ b) /\ b0 = b0 /\ b1 = b1 /\ d = d /\ b)) (True)) ((y.snd : Int))) (by kernel_rfl) ?_
 simp only [zz]
 obtain ⟨y1, y2⟩ := hy
 refine ⟨fun h => ⟨idx_nat (by omega), by simp only [inR]; omega, (y.1.set y.2 (-7), y.2 + 1), ⟨⟨?_, ?_⟩, ?_⟩, by simp only; omega, rfl⟩, fun _ => trivial⟩ <;> simp only [List.length_set] <;> omega
def sb9 (p q : List Int) (x b0 b1 d : List PQ) (_ : Unit) : St := ⟨dd 5 ++ PP4 p q x ++ .sl I64 [] :: .int .i64 8 :: .ptr 1 0 [] :: .int .i64 0 :: .own 4 0 :: .int .i64 0 :: .int .i64 0 :: dd 106, [oQ x, .bx (.agg [.own 2 0, .own 3 0]), oQ b0, oQ b1, oQ d]⟩
def hb9 (p q : List Int) (x b0 b1 d : List PQ) : Hint := ⟨chk 0 [5, 6, 7, 8, 9, 10, 11, 12, 13, 14, 15] (fun _ => True) (sb9 p q x b0 b1 d), (xa9 p q x b0 b1 d 8).map (·.2)⟩
theorem loop9b (p q : List Int) (x b0 b1 d : List PQ) (R : Exit -> St -> Prop) : LoopOK X9 L9_0 (hb9 p q x b0 b1 d) R := by
 refine loop_ok (Xo_ok _ _ _ _) (H := fun _ _ => none) [5, 6, 7, 8, 9, 10, 11, 12, 13, 14, 15] (fun _ => True) (sb9 p q x b0 b1 d) (fun _ => 0) (xa9 p q x b0 b1 d 8) 150 fun (_ : Unit) _ => ?_
 refine of_eq (q := (fun (b : Prop) => (fun (a : Int) => b /\ b /\ b /\ b /\ (a < a -> b /\ b /\ idxPre a (0 : Nat) /\ False) /\ (¬a < a -> ∃ (y : Unit), b /\ (p = p /\ q = q /\ x = x /\ b /\ (8 : Int) = 8 /\ b /\ a = a /\ b /\ a = a /\ b) /\ x = x /\ (b /\ b /\ b) /\ b0 = b0 /\ b1 = b1 /\ d = d /\ b)) ((0 : Int))) (True)) (by kernel_rfl) ?_
 simp only [zz]
 exact ⟨fun h => absurd h (by decide), fun _ => trivial⟩
def ob9 (x : List PQ) (y : L3) : List Ob := [oQ x, .bx (.agg [.own 2 0, .own 3 0, .own 4 0]), oQ y.1, oQ y.2.1, oQ y.2.2]
def tm9 (p q : List Int) (x : List PQ) (e : Int) (i : Int) : List AV := dd 5 ++ PP4 p q x ++ .dead :: .int .i64 e :: .dead :: .int .i64 0 :: .dead :: .int .i64 0 :: .dead :: .sub 1 0 [] 0 3 :: .int .i64 i :: []
def si9 (p q : List Int) (x : List PQ) (e : Int) (i : Int) (y : L3) : St := ⟨tm9 p q x e i ++ dd 104, ob9 x y⟩
def sk9 (p q : List Int) (x : List PQ) (e : Int) (i : Int) (y : L3 × Nat) : St := ⟨tm9 p q x e i ++ .int .i64 y.2 :: dd 103, ob9 x y.1⟩
def ii9 (y : L3) : Prop := y.1.length < 1000000 /\ y.2.1.length < 1000000 /\ y.2.2.length < 1000000
def ik9_0 (y : L3 × Nat) : Prop := y.2 <= y.1.1.length /\ ii9 y.1
def xk9_0 (p q : List Int) (x : List PQ) (e : Int) : List (List Nat × Ex) := [([5, 6, 7, 8, 10, 12, 14, 16, 17], ⟨4, L3, ii9, si9 p q x e 0⟩)]
def hk9_0 (p q : List Int) (x : List PQ) (e : Int) : Hint := ⟨chk 0 [5, 6, 7, 8, 10, 12, 14, 16, 17, 18] ik9_0 (sk9 p q x e 0), (xk9_0 p q x e).map (·.2)⟩
theorem loop9k_0 (p q : List Int) (x : List PQ) (e : Int) (R : Exit -> St -> Prop) : LoopOK X9 L9_4 (hk9_0 p q x e) R := by
 refine loop_ok (Xo_ok _ _ _ _) (H := fun _ _ => none) [5, 6, 7, 8, 10, 12, 14, 16, 17, 18] ik9_0 (sk9 p q x e 0) (fun y => y.1.1.length - y.2) (xk9_0 p q x e) 150 fun (y : L3 × Nat) hy => ?_
 refine of_eq (q := (fun (f : L3) => (fun (d : Prop) => (fun (c : Int) => (fun (b : Prop) => (fun (a : Prop) => b /\ b /\ b /\ idxPre (0 : Int) (3 : Nat) /\ b /\ b /\ b /\ (c < (f.fst.length : Int) -> b /\ b /\ idxPre (0 : Int) (3 : Nat) /\ b /\ b /\ b /\ idxPre c f.fst.length /\ b /\ b /\ inR .i64 (c + 1) /\ b /\ ∃ (y_1 : L3 × Nat), (ik9_0 y_1 /\ y_1.fst.fst.length - y_1.snd < f.fst.length - y.snd) /\ (p = p /\ q = q /\ x = x /\ b /\ e = e /\ a /\ a /\ d /\ a /\ c + 1 = (y_1.snd : Int) /\ b) /\ x = x /\ (b /\ b /\ b /\ b) /\ f.fst.set y.snd ((-7 : Int), (1 : Int)) = y_1.fst.fst /\ f.snd.fst = y_1.fst.snd.fst /\ f.snd.snd = y_1.fst.snd.snd /\ b) /\ (¬c < (f.fst.length : Int) -> ∃ (y : List PQ × List PQ × List PQ), ii9 y /\ (p = p /\ q = q /\ x = x /\ b /\ e = e /\ a /\ a /\ d /\ a /\ b) /\ x = x /\ (b /\ b /\ b /\ b) /\ f.fst = y.fst /\ f.snd.fst = y.snd.fst /\ f.snd.snd = y.snd.snd /\ b)) ((0 : Int) = 0)) (True)) ((y.snd : Int))) ((0 : Nat) = 0 /\ (3 : Nat) = 3)) (y.fst)) (by kernel_rfl) ?_
 simp only [zz]
 obtain ⟨y1, y2, y3, y4⟩ := hy
 refine ⟨by unfold idxPre; omega, fun h => ⟨by unfold idxPre; omega, idx_nat (by omega), by simp only [inR]; omega, ((y.1.1.set y.2 (-7, 1), y.1.2.1, y.1.2.2), y.2 + 1), ⟨⟨?_, ?_, ?_, ?_⟩, ?_⟩, by simp only; omega, rfl, rfl, rfl⟩, fun _ => ⟨y.1, ⟨y2, y3, y4⟩, rfl, rfl, rfl⟩⟩ <;> simp only [List.length_set] <;> omega
def ik9_1 (y : L3 × Nat) : Prop := y.2 <= y.1.2.1.length /\ ii9 y.1
def xk9_1 (p q : List Int) (x : List PQ) (e : Int) : List (List Nat × Ex) := [([5, 6, 7, 8, 10, 12, 14, 16, 17], ⟨4, L3, ii9, si9 p q x e 1⟩)]
def hk9_1 (p q : List Int) (x : List PQ) (e : Int) : Hint := ⟨chk 0 [5, 6, 7, 8, 10, 12, 14, 16, 17, 18] ik9_1 (sk9 p q x e 1), (xk9_1 p q x e).map (·.2)⟩
theorem loop9k_1 (p q : List Int) (x : List PQ) (e : Int) (R : Exit -> St -> Prop) : LoopOK X9 L9_4 (hk9_1 p q x e) R := by
 refine loop_ok (Xo_ok _ _ _ _) (H := fun _ _ => none) [5, 6, 7, 8, 10, 12, 14, 16, 17, 18] ik9_1 (sk9 p q x e 1) (fun y => y.1.2.1.length - y.2) (xk9_1 p q x e) 150 fun (y : L3 × Nat) hy => ?_
 refine of_eq (q := (fun (g : Prop) => (fun (f : List PQ) => (fun (d : Prop) => (fun (c : Int) => (fun (b : Int) => (fun (a : Prop) => a /\ a /\ a /\ idxPre c (3 : Nat) /\ a /\ a /\ a /\ (b < (f.length : Int) -> a /\ a /\ idxPre c (3 : Nat) /\ a /\ a /\ a /\ idxPre b f.length /\ a /\ a /\ inR .i64 (b + c) /\ a /\ ∃ (y_1 : L3 × Nat), (ik9_1 y_1 /\ y_1.fst.snd.fst.length - y_1.snd < f.length - y.snd) /\ (p = p /\ q = q /\ x = x /\ a /\ e = e /\ d /\ d /\ g /\ c = c /\ b + c = (y_1.snd : Int) /\ a) /\ x = x /\ (a /\ a /\ a /\ a) /\ y.fst.fst = y_1.fst.fst /\ f.set y.snd ((-7 : Int), c) = y_1.fst.snd.fst /\ y.fst.snd.snd = y_1.fst.snd.snd /\ a) /\ (¬b < (f.length : Int) -> ∃ (y_1 : List PQ × List PQ × List PQ), ii9 y_1 /\ (p = p /\ q = q /\ x = x /\ a /\ e = e /\ d /\ d /\ g /\ c = c /\ a) /\ x = x /\ (a /\ a /\ a /\ a) /\ y.fst.fst = y_1.fst /\ f = y_1.snd.fst /\ y.fst.snd.snd = y_1.snd.snd /\ a)) (True)) ((y.snd : Int))) ((1 : Int))) ((0 : Int) = 0)) (y.fst.snd.fst)) ((0 : Nat) = 0 /\ (3 : Nat) = 3)) (by kernel_rfl) ?_
 simp only [zz]
 obtain ⟨y1, y2, y3, y4⟩ := hy
 refine ⟨by unfold idxPre; omega, fun h => ⟨by unfold idxPre; omega, idx_nat (by omega), by simp only [inR]; omega, ((y.1.1, y.1.2.1.set y.2 (-7, 1), y.1.2.2), y.2 + 1), ⟨⟨?_, ?_, ?_, ?_⟩, ?_⟩, by simp only; omega, rfl, rfl, rfl⟩, fun _ => ⟨y.1, ⟨y2, y3, y4⟩, rfl, rfl, rfl⟩⟩ <;> simp only [List.length_set] <;> omega
def ik9_2 (y : L3 × Nat) : Prop := y.2 <= y.1.2.2.length /\ ii9 y.1
def xk9_2 (p q : List Int) (x : List PQ) (e : Int) : List (List Nat × Ex) := [([5, 6, 7, 8, 10, 12, 14, 16, 17], ⟨4, L3, ii9, si9 p q x e 2⟩)]
def hk9_2 (p q : List Int) (x : List PQ) (e : Int) : Hint := ⟨chk 0 [5, 6, 7, 8, 10, 12, 14, 16, 17, 18] ik9_2 (sk9 p q x e 2), (xk9_2 p q x e).map (·.2)⟩
theorem loop9k_2 (p q : List Int) (x : List PQ) (e : Int) (R : Exit -> St -> Prop) : LoopOK X9 L9_4 (hk9_2 p q x e) R := by
 refine loop_ok (Xo_ok _ _ _ _) (H := fun _ _ => none) [5, 6, 7, 8, 10, 12, 14, 16, 17, 18] ik9_2 (sk9 p q x e 2) (fun y => y.1.2.2.length - y.2) (xk9_2 p q x e) 150 fun (y : L3 × Nat) hy => ?_
 refine of_eq (q := (fun (g : Int) => (fun (f : Prop) => (fun (d : List PQ) => (fun (c : Prop) => (fun (b : Int) => (fun (a : Prop) => a /\ a /\ a /\ idxPre g (3 : Nat) /\ a /\ a /\ a /\ (b < (d.length : Int) -> a /\ a /\ idxPre g (3 : Nat) /\ a /\ a /\ a /\ idxPre b d.length /\ a /\ a /\ inR .i64 (b + 1) /\ a /\ ∃ (y_1 : L3 × Nat), (ik9_2 y_1 /\ y_1.fst.snd.snd.length - y_1.snd < d.length - y.snd) /\ (p = p /\ q = q /\ x = x /\ a /\ e = e /\ c /\ c /\ f /\ g = g /\ b + 1 = (y_1.snd : Int) /\ a) /\ x = x /\ (a /\ a /\ a /\ a) /\ y.fst.fst = y_1.fst.fst /\ y.fst.snd.fst = y_1.fst.snd.fst /\ d.set y.snd ((-7 : Int), (1 : Int)) = y_1.fst.snd.snd /\ a) /\ (¬b < (d.length : Int) -> ∃ (y_1 : List PQ × List PQ × List PQ), ii9 y_1 /\ (p = p /\ q = q /\ x = x /\ a /\ e = e /\ c /\ c /\ f /\ g = g /\ a) /\ x = x /\ (a /\ a /\ a /\ a) /\ y.fst.fst = y_1.fst /\ y.fst.snd.fst = y_1.snd.fst /\ d = y_1.snd.snd /\ a)) (True)) ((y.snd : Int))) ((0 : Int) = 0)) (y.fst.snd.snd)) ((0 : Nat) = 0 /\ (3 : Nat) = 3)) ((2 : Int))) (by kernel_rfl) ?_
 simp only [zz]
 obtain ⟨y1, y2, y3, y4⟩ := hy
 refine ⟨by unfold idxPre; omega, fun h => ⟨by unfold idxPre; omega, idx_nat (by omega), by simp only [inR]; omega, ((y.1.1, y.1.2.1, y.1.2.2.set y.2 (-7, 1)), y.2 + 1), ⟨⟨?_, ?_, ?_, ?_⟩, ?_⟩, by simp only; omega, rfl, rfl, rfl⟩, fun _ => ⟨y.1, ⟨y2, y3, y4⟩, rfl, rfl, rfl⟩⟩ <;> simp only [List.length_set] <;> omega
def fi9 (p q : List Int) (x : List PQ) (e : Int) : List Fam := [⟨L3, ii9, si9 p q x e 0, fun _ => 3, fun _ _ => some (hk9_0 p q x e)⟩, ⟨L3, ii9, si9 p q x e 1, fun _ => 2, fun _ _ => some (hk9_1 p q x e)⟩, ⟨L3, ii9, si9 p q x e 2, fun _ => 1, fun _ _ => some (hk9_2 p q x e)⟩, ⟨L3, ii9, si9 p q x e 3, fun _ => 0, fun _ _ => none⟩]
def xi9 (p q : List Int) (x : List PQ) (e : Int) : List (List Nat × Ex) := [([5, 6, 7, 8, 10, 12, 14], ⟨2, Unit, fun _ => True, fun _ => ⟨dd 5 ++ PP4 p q x ++ .dead :: .int .i64 e :: .dead :: .int .i64 0 :: .dead :: .int .i64 0 :: dd 107, [oQ x]⟩⟩)]
def hi9 (p q : List Int) (x : List PQ) (e : Int) : Hint := ⟨chks 0 [5, 6, 7, 8, 10, 12, 14, 16, 17] (fi9 p q x e), (xi9 p q x e).map (·.2)⟩
theorem loop9i (p q : List Int) (x : List PQ) (e : Int) (R : Exit -> St -> Prop) : LoopOK X9 L9_2 (hi9 p q x e) R := by
 refine loop_fams (Xo_ok _ _ _ _) [5, 6, 7, 8, 10, 12, 14, 16, 17] (fi9 p q x e) (xi9 p q x e) 200 ⟨fun (y : L3) hy => ?_, fun (y : L3) hy => ?_, fun (y : L3) hy => ?_, fun (y : L3) hy => ?_, trivial⟩
 · have hL := loop9k_0 p q x e (bodyR 0 (xi9 p q x e) R)
   refine of_eq (q := (fun (i : Int) => (fun (h : Int) => (fun (g : Nat) => (fun (f : Prop) => (fun (c : Prop) => (fun (d : Prop) => (fun (b : Prop) => (fun (a : Prop) => c /\ c /\ (h < 3 -> c /\ LoopOK X9 L9_4 (hk9_0 p q x e) (bodyR (0 : Nat) (xi9 p q x e) R) /\ (∃ (y_1 : L3 × Nat), ik9_0 y_1 /\ (p = p /\ q = q /\ f /\ c /\ e = e /\ a /\ a /\ b /\ a /\ h = (y_1.snd : Int) /\ c) /\ f /\ d /\ y.fst = y_1.fst.fst /\ y.snd.fst = y_1.fst.snd.fst /\ y.snd.snd = y_1.fst.snd.snd /\ c) /\ (∀ (y : List PQ × List PQ × List PQ), ii9 y -> c /\ inR .i64 i /\ c /\ ((∃ (y_1 : List PQ × List PQ × List PQ), (ii9 y_1 /\ g < g) /\ (p = p /\ q = q /\ f /\ c /\ e = e /\ a /\ a /\ b /\ i = h /\ c) /\ f /\ d /\ y.fst = y_1.fst /\ y.snd.fst = y_1.snd.fst /\ y.snd.snd = y_1.snd.snd /\ c) ∨ (∃ (y_1 : List PQ × List PQ × List PQ), (ii9 y_1 /\ (2 : Nat) < g) /\ (p = p /\ q = q /\ f /\ c /\ e = e /\ a /\ a /\ b /\ i = i /\ c) /\ f /\ d /\ y.fst = y_1.fst /\ y.snd.fst = y_1.snd.fst /\ y.snd.snd = y_1.snd.snd /\ c) ∨ (∃ (y_1 : List PQ × List PQ × List PQ), (ii9 y_1 /\ (1 : Nat) < g) /\ (p = p /\ q = q /\ f /\ c /\ e = e /\ a /\ a /\ b /\ i = 2 /\ c) /\ f /\ d /\ y.fst = y_1.fst /\ y.snd.fst = y_1.snd.fst /\ y.snd.snd = y_1.snd.snd /\ c) ∨ ∃ (y_1 : List PQ × List PQ × List PQ), (ii9 y_1 /\ (0 : Nat) < g) /\ (p = p /\ q = q /\ f /\ c /\ e = e /\ a /\ a /\ b /\ i = 3 /\ c) /\ f /\ d /\ y.fst = y_1.fst /\ y.snd.fst = y_1.snd.fst /\ y.snd.snd = y_1.snd.snd /\ c)) /\ c) /\ (¬h < 3 -> ∃ (y : Unit), c /\ (p = p /\ q = q /\ f /\ c /\ e = e /\ a /\ a /\ c) /\ f /\ c)) (h = h)) ((0 : Nat) = 0 /\ g = g)) (c /\ c /\ c /\ c)) (True)) (x = x)) ((3 : Nat))) ((0 : Int))) ((1 : Int))) (by kernel_rfl) ?_
   simp only [zz]
   exact ⟨fun _ => ⟨hL, ⟨(y, 0), ⟨Nat.zero_le _, hy⟩, rfl, rfl, rfl, rfl⟩, fun z hz => ⟨by simp only [inR]; omega, .inr (.inl ⟨z, ⟨hz, by decide⟩, rfl, rfl, rfl⟩)⟩⟩, fun _ => trivial⟩
 · have hL := loop9k_1 p q x e (bodyR 0 (xi9 p q x e) R)
   refine of_eq (q := (fun (i : Int) => (fun (h : Nat) => (fun (g : Int) => (fun (f : Prop) => (fun (c : Prop) => (fun (d : Prop) => (fun (b : Prop) => (fun (a : Prop) => c /\ c /\ (i < 3 -> c /\ LoopOK X9 L9_4 (hk9_1 p q x e) (bodyR (0 : Nat) (xi9 p q x e) R) /\ (∃ (y_1 : L3 × Nat), ik9_1 y_1 /\ (p = p /\ q = q /\ f /\ c /\ e = e /\ a /\ a /\ b /\ i = i /\ (0 : Int) = (y_1.snd : Int) /\ c) /\ f /\ d /\ y.fst = y_1.fst.fst /\ y.snd.fst = y_1.fst.snd.fst /\ y.snd.snd = y_1.fst.snd.snd /\ c) /\ (∀ (y : List PQ × List PQ × List PQ), ii9 y -> c /\ inR .i64 g /\ c /\ ((∃ (y_1 : List PQ × List PQ × List PQ), (ii9 y_1 /\ (3 : Nat) < h) /\ (p = p /\ q = q /\ f /\ c /\ e = e /\ a /\ a /\ b /\ g = 0 /\ c) /\ f /\ d /\ y.fst = y_1.fst /\ y.snd.fst = y_1.snd.fst /\ y.snd.snd = y_1.snd.snd /\ c) ∨ (∃ (y_1 : List PQ × List PQ × List PQ), (ii9 y_1 /\ h < h) /\ (p = p /\ q = q /\ f /\ c /\ e = e /\ a /\ a /\ b /\ g = i /\ c) /\ f /\ d /\ y.fst = y_1.fst /\ y.snd.fst = y_1.snd.fst /\ y.snd.snd = y_1.snd.snd /\ c) ∨ (∃ (y_1 : List PQ × List PQ × List PQ), (ii9 y_1 /\ (1 : Nat) < h) /\ (p = p /\ q = q /\ f /\ c /\ e = e /\ a /\ a /\ b /\ g = g /\ c) /\ f /\ d /\ y.fst = y_1.fst /\ y.snd.fst = y_1.snd.fst /\ y.snd.snd = y_1.snd.snd /\ c) ∨ ∃ (y_1 : List PQ × List PQ × List PQ), (ii9 y_1 /\ (0 : Nat) < h) /\ (p = p /\ q = q /\ f /\ c /\ e = e /\ a /\ a /\ b /\ g = 3 /\ c) /\ f /\ d /\ y.fst = y_1.fst /\ y.snd.fst = y_1.snd.fst /\ y.snd.snd = y_1.snd.snd /\ c)) /\ c) /\ (¬i < 3 -> ∃ (y : Unit), c /\ (p = p /\ q = q /\ f /\ c /\ e = e /\ a /\ a /\ c) /\ f /\ c)) ((0 : Int) = 0)) ((0 : Nat) = 0 /\ (3 : Nat) = 3)) (c /\ c /\ c /\ c)) (True)) (x = x)) ((2 : Int))) ((2 : Nat))) ((1 : Int))) (by kernel_rfl) ?_
   simp only [zz]
   exact ⟨fun _ => ⟨hL, ⟨(y, 0), ⟨Nat.zero_le _, hy⟩, rfl, rfl, rfl, rfl⟩, fun z hz => ⟨by simp only [inR]; omega, .inr (.inr (.inl ⟨z, ⟨hz, by decide⟩, rfl, rfl, rfl⟩))⟩⟩, fun _ => trivial⟩
 · have hL := loop9k_2 p q x e (bodyR 0 (xi9 p q x e) R)
   refine of_eq (q := (fun (i : Int) => (fun (h : Nat) => (fun (g : Prop) => (fun (f : Int) => (fun (c : Prop) => (fun (d : Prop) => (fun (b : Prop) => (fun (a : Prop) => c /\ c /\ (i < f -> c /\ LoopOK X9 L9_4 (hk9_2 p q x e) (bodyR (0 : Nat) (xi9 p q x e) R) /\ (∃ (y_1 : L3 × Nat), ik9_2 y_1 /\ (p = p /\ q = q /\ g /\ c /\ e = e /\ a /\ a /\ b /\ i = i /\ (0 : Int) = (y_1.snd : Int) /\ c) /\ g /\ d /\ y.fst = y_1.fst.fst /\ y.snd.fst = y_1.fst.snd.fst /\ y.snd.snd = y_1.fst.snd.snd /\ c) /\ (∀ (y : List PQ × List PQ × List PQ), ii9 y -> c /\ inR .i64 f /\ c /\ ((∃ (y_1 : List PQ × List PQ × List PQ), (ii9 y_1 /\ (3 : Nat) < h) /\ (p = p /\ q = q /\ g /\ c /\ e = e /\ a /\ a /\ b /\ f = 0 /\ c) /\ g /\ d /\ y.fst = y_1.fst /\ y.snd.fst = y_1.snd.fst /\ y.snd.snd = y_1.snd.snd /\ c) ∨ (∃ (y_1 : List PQ × List PQ × List PQ), (ii9 y_1 /\ (2 : Nat) < h) /\ (p = p /\ q = q /\ g /\ c /\ e = e /\ a /\ a /\ b /\ f = 1 /\ c) /\ g /\ d /\ y.fst = y_1.fst /\ y.snd.fst = y_1.snd.fst /\ y.snd.snd = y_1.snd.snd /\ c) ∨ (∃ (y_1 : List PQ × List PQ × List PQ), (ii9 y_1 /\ h < h) /\ (p = p /\ q = q /\ g /\ c /\ e = e /\ a /\ a /\ b /\ f = i /\ c) /\ g /\ d /\ y.fst = y_1.fst /\ y.snd.fst = y_1.snd.fst /\ y.snd.snd = y_1.snd.snd /\ c) ∨ ∃ (y_1 : List PQ × List PQ × List PQ), (ii9 y_1 /\ (0 : Nat) < h) /\ (p = p /\ q = q /\ g /\ c /\ e = e /\ a /\ a /\ b /\ f = f /\ c) /\ g /\ d /\ y.fst = y_1.fst /\ y.snd.fst = y_1.snd.fst /\ y.snd.snd = y_1.snd.snd /\ c)) /\ c) /\ (¬i < f -> ∃ (y : Unit), c /\ (p = p /\ q = q /\ g /\ c /\ e = e /\ a /\ a /\ c) /\ g /\ c)) ((0 : Int) = 0)) ((0 : Nat) = 0 /\ (3 : Nat) = 3)) (c /\ c /\ c /\ c)) (True)) ((3 : Int))) (x = x)) ((1 : Nat))) ((2 : Int))) (by kernel_rfl) ?_
   simp only [zz]
   exact ⟨fun _ => ⟨hL, ⟨(y, 0), ⟨Nat.zero_le _, hy⟩, rfl, rfl, rfl, rfl⟩, fun z hz => ⟨by simp only [inR]; omega, .inr (.inr (.inr ⟨z, ⟨hz, by decide⟩, rfl, rfl, rfl⟩))⟩⟩, fun _ => trivial⟩
 · refine of_eq (q := True /\ True /\ ((3 : Int) < 3 -> True /\ False) /\ (¬(3 : Int) < 3 -> ∃ (y : Unit), True /\ (p = p /\ q = q /\ x = x /\ True /\ e = e /\ (0 : Int) = 0 /\ (0 : Int) = 0 /\ True) /\ x = x /\ True)) (by kernel_rfl) ?_
   simp only [zz]
   exact ⟨fun h => absurd h (by decide), fun _ => trivial⟩
noncomputable def Xod (l : EL) (d : List (Nat × EL)) (hs : Nat -> Bool) : Cy := { mkD Tryd.prog tt gl l d 0 (fun _ => none) with hs := hs }
theorem Xod_ok (l : EL) (d : List (Nat × EL)) (hs : Nat -> Bool) : (Xod l d hs).Ok := have h := mkD_ok tt_ok l d 0 (fun _ => none); { tt := h.tt, Γ := h.Γ, Γd := h.Γd, Yl := h.Yl }
noncomputable abbrev X9a : Cy := Xod [e12v, e48, e42, e32o, e35o, e34o, z49, z15, e39, e18] [(82, [y34])] hs9
noncomputable abbrev X9n : Cy := Xod [e12v, e48, e42, m32, e35o, e34o, z49, z15, e39, e18] [(82, [y34])] hs9
theorem pq9 (l : List Int) : (tmL l).length <= 7 /\ tmL l = (tmL l).take 9 := by
 have h := tmL_poly l
 have h2 := h.2.1
 exact ⟨by omega, (List.take_of_length_le (by omega)).symm⟩
theorem call9a (l : List Int) (c : List PQ) (hl : l.length < 1000000000000000) (hc : c.length < 1000000000000000) (hm : coefs (mir (tmL l))) : GCall Tryd.prog gl 9 true [.sl I64 l, .sl Q2 c] [] [.tt] [] := by
 have hA := fun R => loop9a (tmL l) ((tmL l).take 9) (crnL c 6) (qs (dvL (rat (1, 2)) (rats (crnL c 6)))) (qs (dvR (rat (1, 2)) (rats (crnL c 6)))) (qs (raise (rats (crnL c 6)))) R
 have hI := fun R => loop9i (tmL l) ((tmL l).take 9) (crnL c 6) 0 R
 refine gcall_of (X := X9a) ((Xod_ok _ _ _)) (f := 9) (fn := Tryd.f9) (c := bodyOf Tryd.f9) (by kernel_rfl) (by kernel_rfl) (view := false) (rvs := [.tmp 4]) (by kernel_rfl) (H := (fun id => some (match id with | 0 => ha9 (tmL l) ((tmL l).take 9) (crnL c 6) (qs (dvL (rat (1, 2)) (rats (crnL c 6)))) (qs (dvR (rat (1, 2)) (rats (crnL c 6)))) (qs (raise (rats (crnL c 6)))) | _ => hi9 (tmL l) ((tmL l).take 9) (crnL c 6) 0))) 300 (by kernel_rfl) ?_
 refine of_eq (q := (fun (n : Int) => (fun (m : Prop) => (fun (h : List Int) => (fun (k : List Int) => (fun (g : Prop) => (fun (d : Prop) => (fun (p : Prop) => (fun (j : Prop) => (fun (a : List (Int × Int)) => (fun (q : Prop) => (fun (o : Prop) => (fun (i : List (Int × Int)) => (fun (f : List (Int × Int)) => (fun (e : List (Int × Int)) => (fun (b : Prop) => d /\ d /\ (l.length + 1 <= 1000000000000000 /\ d) /\ d /\ d /\ ((h.length < 1000000000000000 /\ n <= 9 /\ (9 : Int) < 1000000) /\ d) /\ d /\ d /\ ((c.length < 1000000000000000 /\ n <= 6 /\ (6 : Int) < 1000000) /\ d) /\ d /\ d /\ d /\ d /\ (a ≠ [] /\ sumPre (0 : Nat) a.length (nat_lit 16)) /\ d /\ d /\ ((isPoly h /\ coefs (mir h)) /\ d) /\ d /\ d /\ d /\ d /\ d /\ d /\ ((a.length < 1000000 /\ given a (7 : Int)) /\ d) /\ d /\ d /\ d /\ d /\ d /\ d /\ d /\ o /\ d /\ d /\ d /\ d /\ d /\ d /\ LoopOK X9 L9_0 (ha9 h k a e f i) (RetR X9a true false [ResultVar.tmp (4 : Tmp)] [AV.tt] []) /\ (∃ (y : List Int × Nat), ia9 y /\ (h = h /\ List.take (9 : Nat) h = k /\ q /\ d /\ d /\ g /\ d /\ g /\ d /\ g /\ n = (y.snd : Int) /\ d) /\ q /\ mir h = y.fst /\ (d /\ d /\ d) /\ e = e /\ f = f /\ i = i /\ d) /\ (∀ (y : Unit), d -> idxPre n (2 : Nat) /\ d /\ idxPre (1 : Int) (2 : Nat) /\ d /\ d /\ d /\ d /\ d /\ LoopOK X9 L9_2 (hi9 h k a n) (RetR X9a true false [ResultVar.tmp (4 : Tmp)] [AV.tt] []) /\ ((∃ (y : List PQ × List PQ × List PQ), ii9 y /\ (h = h /\ k = k /\ q /\ d /\ g /\ g /\ g /\ m /\ g /\ d) /\ q /\ p /\ e = y.fst /\ f = y.snd.fst /\ i = y.snd.snd /\ d) ∨ (∃ (y : List PQ × List PQ × List PQ), ii9 y /\ (h = h /\ k = k /\ q /\ d /\ g /\ g /\ g /\ m /\ n = 1 /\ d) /\ q /\ p /\ e = y.fst /\ f = y.snd.fst /\ i = y.snd.snd /\ d) ∨ (∃ (y : List PQ × List PQ × List PQ), ii9 y /\ (h = h /\ k = k /\ q /\ d /\ g /\ g /\ g /\ m /\ n = 2 /\ d) /\ q /\ p /\ e = y.fst /\ f = y.snd.fst /\ i = y.snd.snd /\ d) ∨ ∃ (y : List PQ × List PQ × List PQ), ii9 y /\ (h = h /\ k = k /\ q /\ d /\ g /\ g /\ g /\ m /\ n = 3 /\ d) /\ q /\ p /\ e = y.fst /\ f = y.snd.fst /\ i = y.snd.snd /\ d) /\ (∀ (y : Unit), d -> d /\ o /\ d /\ d /\ d /\ d /\ d /\ d /\ d /\ d /\ (g -> d /\ d /\ b) /\ (¬g -> d /\ d /\ d /\ d /\ (n = 8 -> b) /\ (¬n = 8 -> d /\ d /\ d /\ d /\ d /\ d /\ j))) /\ d) /\ d) (d /\ d /\ d /\ d /\ (g -> d /\ d /\ d /\ d /\ (g -> d /\ d /\ d /\ d /\ (g -> d /\ d /\ ((h.length < 1000000000000000 /\ h = k) /\ d) /\ d /\ d /\ d /\ d /\ ((a.length < 1000000 /\ a = a) /\ d) /\ d /\ d /\ d /\ d /\ (((∀ (x : Int × Int), x ∈ a -> isGiv x) /\ (1 : Nat) <= a.length /\ (a.length : Int) <= 6) /\ d) /\ ((i.length < 1000000 /\ i = i) /\ d) /\ d /\ d /\ (d /\ d) /\ d /\ d /\ d /\ (true = true /\ d) /\ d) /\ (¬g -> j)) /\ (¬g -> d /\ d /\ j)) /\ (¬g -> d /\ d /\ d /\ d /\ j))) (qs (dvL (rat ((1 : Int), (2 : Int))) (rats a)))) (qs (dvR (rat ((1 : Int), (2 : Int))) (rats a)))) (qs (raise (rats a)))) ((a.length < 1000000 /\ given a (6 : Int)) /\ d)) (a = a)) (crnL c (6 : Nat))) (d /\ d /\ d /\ d /\ d /\ d /\ d /\ d /\ d /\ (false = true /\ d) /\ d)) (d /\ d /\ d /\ d)) (True)) (n = n)) (List.take (9 : Nat) h)) (tmL l)) ((0 : Nat) = 0 /\ (3 : Nat) = 3)) ((0 : Int))) (by kernel_rfl) ?_
 simp only [zz]
 have hg : given (crnL c 6) 6 := crnL_given c (by decide)
 have hl6 := hg.2
 have hg7 : given (crnL c 6) 7 := ⟨hg.1, by omega, by omega⟩
 have hp := tmL_poly l
 obtain ⟨hq1, hq2⟩ := pq9 l
 have hr := rats_length (crnL c 6)
 have n1 : (qs (dvL (rat (1, 2)) (rats (crnL c 6)))).length < 1000000 := by rw [qs_length, dvL_length]; omega
 have n2 : (qs (dvR (rat (1, 2)) (rats (crnL c 6)))).length < 1000000 := by rw [qs_length, dvR_length]; omega
 have n3 : (qs (raise (rats (crnL c 6)))).length < 1000000 := by rw [qs_length, raise, rzs_length]; omega
 have n4 : crnL c 6 ≠ [] := fun e => by rw [e] at hl6; simp at hl6
 have n5 : sumPre 0 (crnL c 6).length 16 := by unfold sumPre; omega
 have hy6 : yG (crnL c 6) 6 := ⟨by omega, hg⟩
 have hy7 : yG (crnL c 6) 7 := ⟨by omega, hg7⟩
 have ht : ∀ P : Prop, ¬ True -> P := fun P h => absurd trivial h
 have fin : ((tmL l).length < 1000000000000000 /\ tmL l = List.take 9 (tmL l)) /\ (crnL c 6).length < 1000000 /\ given (crnL c 6) 6 /\ (qs (raise (rats (crnL c 6)))).length < 1000000 := ⟨⟨by omega, hq2⟩, by omega, hg, n3⟩
 have hM : (mir (tmL l)).length < 1000000 := by have := mK_length (tmL l) (tmL l).length; unfold mir; omega
 exact ⟨by omega, ⟨by omega, by decide, by decide⟩, ⟨by omega, by decide, by decide⟩, ⟨n4, n5⟩, ⟨hp, hm⟩, hy7, hy6, hA _, ⟨(mir (tmL l), 0), ⟨Nat.zero_le _, hM⟩, rfl, rfl⟩, fun _ _ => ⟨i02, i12, hI _, .inl ⟨(_, _, _), ⟨n1, n2, n3⟩, rfl, rfl, rfl⟩, fun _ _ => ⟨hy6, fun _ => ⟨fun _ => ⟨fun _ => ⟨fun _ => fin, ht _⟩, ht _⟩, ht _⟩, ht _⟩⟩⟩
theorem call9n (l : List Int) (c : List PQ) (hl : l.length < 1000000000000000) (hc : c.length < 1000000000000000) (hm : ¬ coefs (mir (tmL l))) : GCall Tryd.prog gl 9 true [.sl I64 l, .sl Q2 c] [] [.tt] [] := by
 have hA := fun R => loop9b (tmL l) ((tmL l).take 9) (crnL c 6) (qs (dvL (rat (1, 2)) (rats (crnL c 6)))) (qs (dvR (rat (1, 2)) (rats (crnL c 6)))) (qs (raise (rats (crnL c 6)))) R
 have hI := fun R => loop9i (tmL l) ((tmL l).take 9) (crnL c 6) 8 R
 refine gcall_of (X := X9n) ((Xod_ok _ _ _)) (f := 9) (fn := Tryd.f9) (c := bodyOf Tryd.f9) (by kernel_rfl) (by kernel_rfl) (view := false) (rvs := [.tmp 4]) (by kernel_rfl) (H := (fun id => some (match id with | 0 => hb9 (tmL l) ((tmL l).take 9) (crnL c 6) (qs (dvL (rat (1, 2)) (rats (crnL c 6)))) (qs (dvR (rat (1, 2)) (rats (crnL c 6)))) (qs (raise (rats (crnL c 6)))) | _ => hi9 (tmL l) ((tmL l).take 9) (crnL c 6) 8))) 300 (by kernel_rfl) ?_
 refine of_eq (q := (fun (p : Nat) => (fun (o : Int) => (fun (n : Int) => (fun (t : Prop) => (fun (m : Prop) => (fun (i : Prop) => (fun (g : List Int) => (fun (k : List Int) => (fun (d : Prop) => (fun (q : Prop) => (fun (j : Prop) => (fun (a : List (Int × Int)) => (fun (s : Prop) => (fun (r : Prop) => (fun (h : List (Int × Int)) => (fun (f : List (Int × Int)) => (fun (e : List (Int × Int)) => (fun (b : Prop) => d /\ d /\ (l.length + 1 <= 1000000000000000 /\ d) /\ d /\ d /\ ((g.length < 1000000000000000 /\ o <= 9 /\ (9 : Int) < 1000000) /\ d) /\ d /\ d /\ ((c.length < 1000000000000000 /\ o <= 6 /\ (6 : Int) < 1000000) /\ d) /\ d /\ d /\ d /\ d /\ (a ≠ [] /\ sumPre (0 : Nat) a.length (nat_lit 16)) /\ d /\ d /\ (((isPoly g /\ g.length < p) /\ ¬coefs (mir g)) /\ d) /\ d /\ d /\ d /\ d /\ d /\ d /\ ((a.length < p /\ given a (7 : Int)) /\ d) /\ d /\ d /\ d /\ d /\ d /\ d /\ d /\ r /\ d /\ d /\ d /\ d /\ d /\ d /\ LoopOK X9 L9_0 (hb9 g k a e f h) (RetR X9n true false [ResultVar.tmp (4 : Tmp)] [AV.tt] []) /\ (∃ (y : Unit), d /\ (g = g /\ List.take (9 : Nat) g = k /\ s /\ d /\ ([] : List Int) = [] /\ t /\ d /\ i /\ d /\ i /\ i /\ d) /\ s /\ (d /\ d /\ d) /\ e = e /\ f = f /\ h = h /\ d) /\ (∀ (y : Unit), d -> idxPre o (2 : Nat) /\ d /\ idxPre (1 : Int) (2 : Nat) /\ d /\ d /\ d /\ d /\ d /\ LoopOK X9 L9_2 (hi9 g k a n) (RetR X9n true false [ResultVar.tmp (4 : Tmp)] [AV.tt] []) /\ ((∃ (y : List PQ × List PQ × List PQ), ii9 y /\ (g = g /\ k = k /\ s /\ d /\ t /\ i /\ i /\ m /\ i /\ d) /\ s /\ q /\ e = y.fst /\ f = y.snd.fst /\ h = y.snd.snd /\ d) ∨ (∃ (y : List PQ × List PQ × List PQ), ii9 y /\ (g = g /\ k = k /\ s /\ d /\ t /\ i /\ i /\ m /\ o = 1 /\ d) /\ s /\ q /\ e = y.fst /\ f = y.snd.fst /\ h = y.snd.snd /\ d) ∨ (∃ (y : List PQ × List PQ × List PQ), ii9 y /\ (g = g /\ k = k /\ s /\ d /\ t /\ i /\ i /\ m /\ o = 2 /\ d) /\ s /\ q /\ e = y.fst /\ f = y.snd.fst /\ h = y.snd.snd /\ d) ∨ ∃ (y : List PQ × List PQ × List PQ), ii9 y /\ (g = g /\ k = k /\ s /\ d /\ t /\ i /\ i /\ m /\ o = 3 /\ d) /\ s /\ q /\ e = y.fst /\ f = y.snd.fst /\ h = y.snd.snd /\ d) /\ (∀ (y : Unit), d -> d /\ r /\ d /\ d /\ d /\ d /\ d /\ d /\ d /\ d /\ (n = o -> d /\ d /\ b) /\ (¬n = o -> d /\ d /\ d /\ d /\ (t -> b) /\ (¬t -> d /\ d /\ d /\ d /\ d /\ d /\ j))) /\ d) /\ d) (d /\ d /\ d /\ d /\ (i -> d /\ d /\ d /\ d /\ (i -> d /\ d /\ d /\ d /\ (i -> d /\ d /\ ((g.length < 1000000000000000 /\ g = k) /\ d) /\ d /\ d /\ d /\ d /\ ((a.length < p /\ a = a) /\ d) /\ d /\ d /\ d /\ d /\ (((∀ (x : Int × Int), x ∈ a -> isGiv x) /\ (1 : Nat) <= a.length /\ (a.length : Int) <= 6) /\ d) /\ ((h.length < p /\ h = h) /\ d) /\ d /\ d /\ (d /\ d) /\ d /\ d /\ d /\ (true = true /\ d) /\ d) /\ (¬i -> j)) /\ (¬i -> d /\ d /\ j)) /\ (¬i -> d /\ d /\ d /\ d /\ j))) (qs (dvL (rat ((1 : Int), (2 : Int))) (rats a)))) (qs (dvR (rat ((1 : Int), (2 : Int))) (rats a)))) (qs (raise (rats a)))) ((a.length < p /\ given a (6 : Int)) /\ d)) (a = a)) (crnL c (6 : Nat))) (d /\ d /\ d /\ d /\ d /\ d /\ d /\ d /\ d /\ (false = true /\ d) /\ d)) (d /\ d /\ d /\ d)) (True)) (List.take (9 : Nat) g)) (tmL l)) (o = o)) ((0 : Nat) = 0 /\ (3 : Nat) = 3)) (n = n)) ((8 : Int))) ((0 : Int))) ((1000000 : Nat))) (by kernel_rfl) ?_
 simp only [zz]
 have hg : given (crnL c 6) 6 := crnL_given c (by decide)
 have hl6 := hg.2
 have hg7 : given (crnL c 6) 7 := ⟨hg.1, by omega, by omega⟩
 have hp := tmL_poly l
 obtain ⟨hq1, hq2⟩ := pq9 l
 have hr := rats_length (crnL c 6)
 have n1 : (qs (dvL (rat (1, 2)) (rats (crnL c 6)))).length < 1000000 := by rw [qs_length, dvL_length]; omega
 have n2 : (qs (dvR (rat (1, 2)) (rats (crnL c 6)))).length < 1000000 := by rw [qs_length, dvR_length]; omega
 have n3 : (qs (raise (rats (crnL c 6)))).length < 1000000 := by rw [qs_length, raise, rzs_length]; omega
 have n4 : crnL c 6 ≠ [] := fun e => by rw [e] at hl6; simp at hl6
 have n5 : sumPre 0 (crnL c 6).length 16 := by unfold sumPre; omega
 have hy6 : yG (crnL c 6) 6 := ⟨by omega, hg⟩
 have hy7 : yG (crnL c 6) 7 := ⟨by omega, hg7⟩
 have ht : ∀ P : Prop, ¬ True -> P := fun P h => absurd trivial h
 have fin : ((tmL l).length < 1000000000000000 /\ tmL l = List.take 9 (tmL l)) /\ (crnL c 6).length < 1000000 /\ given (crnL c 6) 6 /\ (qs (raise (rats (crnL c 6)))).length < 1000000 := ⟨⟨by omega, hq2⟩, by omega, hg, n3⟩
 exact ⟨by omega, ⟨by omega, by decide, by decide⟩, ⟨by omega, by decide, by decide⟩, ⟨n4, n5⟩, ⟨⟨hp, by omega⟩, hm⟩, hy7, hy6, hA _, fun _ _ => ⟨i02, i12, hI _, .inl ⟨(_, _, _), ⟨n1, n2, n3⟩, rfl, rfl, rfl⟩, fun _ _ => ⟨hy6, fun h => absurd h (by decide), fun _ => ⟨fun _ => ⟨fun _ => ⟨fun _ => ⟨fun _ => fin, ht _⟩, ht _⟩, ht _⟩, ht _⟩⟩⟩⟩
theorem call9 (l : List Int) (c : List PQ) (h : l.length < 1000000000000000 /\ c.length < 1000000000000000) : GCall Tryd.prog gl 9 true [.sl I64 l, .sl Q2 c] [] [.tt] [] := by
 by_cases hm : coefs (mir (tmL l))
 · exact call9a l c h.1 h.2 hm
 · exact call9n l c h.1 h.2 hm
end Go.Am.Bern

/- Bern: from the laws' contracts to the given statements: what all laws share. -/
namespace Go.Proofs.YtjmfgoemdkfldaaDoor
open Go Go.ChangeShapes Go.WideShapes Go.ChangeAt Go.RowKit Go.Am Go.Am.Bern
theorem own : ownKnob Tryd.prog.godebug = none := by kernel_rfl
theorem laidOut : laidOutB Tryd.prog = true := by kernel_rfl
theorem u3 : Tryd.prog.underlying 3 = some (.int .i64) := by kernel_rfl
theorem u4 : Tryd.prog.underlying 4 = some .bool := by kernel_rfl
theorem u22 : Tryd.prog.underlying 22 = some (.slice 3) := by kernel_rfl
theorem tyOk22 : TyOk Tryd.prog 22 (.sl I64) := ⟨3, u22, u3, by kernel_rfl, by decide, of_decide_eq_true (by kernel_rfl)⟩
theorem u2 : Tryd.prog.underlying 2 = some (.int .i64) := by kernel_rfl
theorem u48 : Tryd.prog.underlying 48 = some (.array 2 2) := by kernel_rfl
theorem u25 : Tryd.prog.underlying 25 = some (.slice 48) := by kernel_rfl
theorem tyOk48 : TyOk Tryd.prog 48 Q2 := ⟨2, u48, u2, by kernel_rfl, by kernel_rfl⟩
theorem tyOk25 : TyOk Tryd.prog 25 (.sl Q2) := ⟨48, u25, tyOk48, by kernel_rfl, by decide, of_decide_eq_true (by kernel_rfl)⟩
def laidW : List (String × DataW Unit) := [("girouette/bern.whole", Rows.laid_girouette_bern_whole)]
theorem door_met (os : Os) (args : Array Value) : laidMetH Tryd.prog laidW ((World.doorLaid Tryd.prog 400 os).forCall (fun _ _ => 0) ⟨#[], args, []⟩).memory :=
 laidMetH_of_parts3 (fuel := 8) (laidMet_of_run' 8 (by kernel_rfl) (by kernel_rfl)) (by kernel_rfl) (by kernel_rfl)
theorem reach_le {l : List Nat} (h : l.all (fun x => decide (x <= reachBytes)) = true) : ∀ n ∈ l, n <= 140737488355328 := fun n hn => by
 have := of_decide_eq_true (List.all_eq_true.mp h n hn)
 have e : reachBytes = 140737488351232 := rfl
 omega
theorem gWhole : Tryd.prog.globalNamed "girouette/bern.whole" = some 0 := by kernel_rfl
theorem tWhole : (Tryd.prog.globals[0]?).map (·.type) = some 87 := by kernel_rfl
set_option maxRecDepth 100000 in
theorem glob_of {W : World} (h : laidMetH Tryd.prog laidW W) : GlobOk gl (fun b => b < W.heap.size) W := by
 rw [MakeChecks.laidMetH_plain _ _ _ (by kernel_rfl)] at h
 obtain ⟨ps, ⟨g0, t0, cs0, f0, p0, q0, hg0, ht0, hv0, hd0, _, _⟩, _, _⟩ := h
 obtain rfl := Option.some.inj (gWhole.symm.trans hg0)
 obtain rfl := Option.some.inj (tWhole.symm.trans ht0)
 have hU : ∃ d, Tryd.prog.underlying 87 = some d /\ dsOf d = .st [(0, 3), (1, 3)] := TI.Ok.under ti87_ok
 obtain ⟨d, hu, hd⟩ := hU
 obtain ⟨fs, rfl, hfs⟩ : ∃ fs, d = .struct fs /\ fs.toList.map (fun f => (f.offset, f.type)) = [(0, 3), (1, 3)] := by
   cases d <;> simp [dsOf] at hd
   exact ⟨_, rfl, hd⟩
 obtain ⟨xs, n, rfl, hx, hl, hn, hel⟩ := DataW.trod_struct hu hd0
 obtain ⟨fs⟩ := fs
 match fs, hfs, hn, hel with
 | [a, b], hfs, hn, hel =>
 simp only [List.map_cons, List.map_nil, List.cons.injEq, Prod.mk.injEq] at hfs
 obtain ⟨⟨a1, a2⟩, ⟨b1, b2⟩, _⟩ := hfs
 have e0 := hel 0 a rfl
 have e1 := hel 1 b rfl
 have c3 : Tryd.prog.cellsOf 3 = 1 := by kernel_rfl
 have c87 : Tryd.prog.cellsOf 87 = 2 := by kernel_rfl
 rw [a1, a2, c3] at e0
 rw [b1, b2, c3] at e1
 rw [c87] at hl
 obtain ⟨ls⟩ := cs0
 match xs, hn, hx, ls, hl, e0, e1, hv0 with
 | [y0, y1], _, hx, [c0, c1], _, e0, e1, hv0 =>
 simp only [Rows.laid_girouette_bern_whole, List.map_cons, List.map_nil, Prod.mk.injEq, DataW.agg.injEq, List.cons.injEq] at hx
 obtain ⟨n0, k0, k1, _⟩ := DataW.trod_int u3 (show DataW.trod _ Tryd.prog W 0 _ false n 3 [c0] = some y0 from e0)
 obtain ⟨n1, l0, l1, _⟩ := DataW.trod_int u3 (show DataW.trod _ Tryd.prog W 0 _ false n 3 [c1] = some y1 from e1)
 have z0 : n0 = 0 := by rw [k1] at hx; simpa using hx.1.1.symm
 have z1 : n1 = 0 := by rw [l1] at hx; simpa using hx.1.2.1.symm
 subst z0 z1
 have w0 := World.var?_cell hg0 hv0 0
 have w1 := World.var?_cell hg0 hv0 1
 simp only [List.cons.injEq, and_true] at k0 l0
 subst k0 l0
 have w0 : W.cell? ⟨0, 0, none⟩ = some (.int .i64 0) := by simpa using w0
 have w1 : W.cell? ⟨0, 1, none⟩ = some (.int .i64 0) := by simpa using w1
 intro g p hp
 match g, hp with
 | 0, hp =>
   have hp : p = ⟨.s2 (.int .i64) (.int .i64), ((0 : Int), (0 : Int))⟩ := (Option.some.inj hp).symm
   subst hp
   refine ⟨cell_lt w0, [.int .i64 0, .int .i64 0], by simp only [CD]; exact ⟨_, _, rfl, rfl, rfl⟩, fun j hj => ?_⟩
   match j, hj with
   | 0, _ => exact w0
   | 1, _ => exact w1
end Go.Proofs.YtjmfgoemdkfldaaDoor
