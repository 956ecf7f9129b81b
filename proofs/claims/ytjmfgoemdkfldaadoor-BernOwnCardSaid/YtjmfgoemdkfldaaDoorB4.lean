/- Part B4 of the proof that the law named in the last file returns true at every input and leaves its arguments as they were; no condition of its own. -/
import Derived.Test.YtjmfgoemdkfldaaDoorB3
set_option linter.unusedSimpArgs false
set_option linter.unusedVariables false
/- Bern: corners of others. -/
namespace Go.Am.Bern
open Go Go.Am Go.Proofs
noncomputable def Xw (l : EL) (hs : Nat -> Bool) : Cy := { X l with hs := hs }
theorem Xw_ok (l : EL) (hs : Nat -> Bool) : (Xw l hs).Ok := { tt := (X_ok l).tt, Γ := (X_ok l).Γ, Γd := (X_ok l).Γd, Yl := (X_ok l).Yl }
def isGiv (x : Int × Int) : Prop := -1000000 <= x.1 /\ x.1 <= 1000000 /\ 1 <= x.2 /\ (240 : Int).tmod x.2 = 0 /\ gcdR x.1 x.2 = 1
instance (x : Int × Int) : Decidable (isGiv x) := inferInstanceAs (Decidable (_ /\ _))
def given (l : List (Int × Int)) (most : Int) : Prop := (∀ x ∈ l, isGiv x) /\ 1 <= l.length /\ (l.length : Int) <= most
instance (l : List (Int × Int)) (most : Int) : Decidable (given l most) := inferInstanceAs (Decidable (_ /\ _))
def openR (l : List (Int × Int)) (most : Int) : List (Int × Int) := if given l most then l else []
def hs80 : Nat -> Bool := fun t => Nat.beq t 38
noncomputable abbrev X80 : Cy := Xw [e96] hs80
theorem modU_neg {a : Int} (h : -1000000 <= a /\ a <= 1000000) : modU .i64 (0 - a) = -a := by
 rw [<- wrap_modU, wrap_inR (by simp only [inR]; omega)]; omega
theorem maxI_le {a b c : Int} : maxI a b <= c ↔ a <= c /\ b <= c := by unfold maxI; split <;> omega
theorem le240 {x : Int} (h1 : 1 <= x) (h2 : ¬ ¬ (240 : Int).tmod x = 0) : x <= 240 := by
 false_or_by_contra; rename_i h
 have : (240 : Int).tmod x = 240 := by rw [Int.tmod_eq_emod_of_nonneg (by omega)]; exact Int.emod_eq_of_lt (by omega) (by omega)
 omega
theorem bad80 {l : List (Int × Int)} {most : Int} {k : Nat} (hk : k < l.length) (h : ¬ isGiv (l.getD k (0, 0))) : [] = openR l most /\ false = decide (given l most) := by
 have hn : ¬ given l most := fun hg => h (hg.1 _ (getD_mem hk))
 simp [openR, hn]
theorem not_lt80 {x : Int × Int} (h : isGiv x) : ¬ 1000000 < maxI x.1 (modU .i64 (0 - x.1)) := by
 rw [modU_neg ⟨h.1, h.2.1⟩, Int.not_lt, maxI_le]; have := h.1; have := h.2.1; omega
noncomputable def L80_0 : Code := lp (bodyOf Tryd.f80) 0
def sz80 (l : List (Int × Int)) (_ : Unit) : St := ⟨.dead :: .dead :: .dead :: .dead :: .dead :: .dead :: .vv (.slice none 0 0) :: (dd 11 ++ .sl Q2 l :: .int .i64 l.length :: .int .i64 0 :: dd 45), []⟩
def st80 (l : List (Int × Int)) (k : Nat) : St := ⟨.dead :: .dead :: .dead :: .dead :: .dead :: .dead :: .own 0 0 :: (dd 11 ++ .sl Q2 l :: .int .i64 l.length :: .int .i64 k :: dd 45), [.sc 0 106 FR (l.take k)]⟩
def inv80 (l : List (Int × Int)) (k : Nat) : Prop := k <= l.length /\ ∀ x ∈ l.take k, isGiv x
def fm80 (l : List (Int × Int)) : List Fam := [⟨Unit, fun _ => True, sz80 l, fun _ => l.length + 1, fun _ _ => none⟩, ⟨Nat, inv80 l, st80 l, fun k => l.length - k, fun _ _ => none⟩]
def ex80 (l : List (Int × Int)) : List (List Nat × Ex) := [([6], ⟨0, Unit, fun _ => l = [], fun _ => ⟨.dead :: .dead :: .dead :: .dead :: .dead :: .dead :: .vv (.slice none 0 0) :: dd 59, []⟩⟩), ([6], ⟨0, Unit, fun _ => ∀ x ∈ l, isGiv x, fun _ => ⟨.dead :: .dead :: .dead :: .dead :: .dead :: .dead :: .own 0 0 :: dd 59, [.sc 0 106 FR l]⟩⟩)]
noncomputable def H80 (l : List (Int × Int)) : Nat -> Option Hint := fun _ => some ⟨chks 0 [6, 18, 19, 20] (fm80 l), (ex80 l).map (·.2)⟩
abbrev R80 (l : List (Int × Int)) (most : Int) := RetR X80 false true [.tmp 4, .tmp 5] [.sl FR (openR l most), .bool (decide (given l most))] []
theorem loop80 (l : List (Int × Int)) (most : Int) (hl : l.length < 1000000) : LoopOK X80 L80_0 ⟨chks 0 [6, 18, 19, 20] (fm80 l), (ex80 l).map (·.2)⟩ (R80 l most) := by
 refine loop_fams (Xw_ok [e96] hs80) [6, 18, 19, 20] (fm80 l) (ex80 l) 80 ⟨fun _ _ => ?_, fun (k : Nat) hk => ?_, trivial⟩
 · refine of_eq (q := (fun (n : Nat) => (fun (j : Int) => (fun (g : Int) => (fun (f : Prop) => (fun (e : Int) => (fun (d : Prop) => (fun (c : Prop) => (fun (b : Prop) => (fun (o : Prop) => (fun (a : Int × Int) => (fun (m : Int) => (fun (k : Int) => (fun (i : Prop) => (fun (h : Prop) => c /\ (g < e -> idxPre g l.length /\ c /\ c /\ c /\ f /\ c /\ c /\ c /\ (k < j -> c /\ c /\ c /\ c /\ o) /\ (¬k < j -> f /\ c /\ ¬k = g /\ c /\ c /\ c /\ (¬Int.tmod (240 : Int) k = g -> c /\ c /\ o) /\ (¬¬Int.tmod (240 : Int) k = g -> d /\ c /\ d /\ c /\ c /\ c /\ c /\ c /\ c /\ (h -> o) /\ (¬h -> d /\ c /\ c /\ c /\ c /\ (m < (-1000000 : Int) -> c /\ b) /\ (¬m < (-1000000 : Int) -> d /\ c /\ f /\ c /\ c /\ ((smalls [m, k] /\ [m, k].length < 1000000) /\ c) /\ c /\ c /\ (i -> b) /\ (¬i -> c /\ d /\ c /\ f /\ c /\ c /\ c /\ sumPre (0 : Nat) [(m, k)].length (nat_lit 16) /\ c /\ inR .i64 j /\ c /\ ((∃ (y : Unit), (c /\ n < n) /\ (False /\ l = l /\ e = e /\ j = g /\ c) /\ c) ∨ ∃ (y : Nat), (inv80 l y /\ l.length - y < n) /\ (c /\ l = l /\ e = e /\ j = (y : Int) /\ c) /\ [(m, k)] = List.take y l /\ c))))))) /\ (¬g < e -> (∃ (y : Unit), l = [] /\ (c /\ c) /\ c) ∨ ∃ (y : Unit), (∀ (x : Int × Int), x ∈ l -> isGiv x) /\ (False /\ c) /\ False)) ((1000000 : Int) < maxI m (modU .i64 (g - m)))) (¬(↑(gcdL [m, k]) : Int) = j)) (a.snd)) (a.fst)) (l.getD (0 : Nat) (g, g))) (c /\ c /\ c /\ b)) (c /\ c /\ c /\ (([] : List (Int × Int)) = openR l most /\ false = decide (given l most) /\ c) /\ c)) (True)) (idxPre g (2 : Nat))) ((l.length : Int))) (idxPre j (2 : Nat))) ((0 : Int))) ((1 : Int))) (l.length + 1)) (by kernel_rfl) ?_
   simp only [zz]
   refine ⟨fun hk' => ?_, fun hk' => ?_⟩
   · have hlt : 0 < l.length := by omega
     have bad := fun h => bad80 (most := most) hlt h
     generalize hx : l.getD 0 (0, 0) = x at *
     refine ⟨by unfold idxPre; omega, i12, fun h1 => bad fun g => ?_, fun h1 => ⟨i12, by omega, fun h2 => bad fun g => ?_, fun h2 => ⟨i02, i02, fun h3 => bad fun g => ?_, fun h3 => ⟨i02, fun h4 => bad fun g => ?_, fun h4 => ⟨i02, i12, ⟨fun y hy => ?_, by simp⟩, fun h5 => bad fun g => ?_, fun h5 => ⟨i02, i12, ?_, by simp only [inR]; omega, 0 + 1, ⟨⟨by omega, ?_⟩, by omega⟩, ?_⟩⟩⟩⟩⟩⟩
     · have := g.2.2.1; omega
     · exact h2 g.2.2.2.1
     · exact not_lt80 g h3
     · have := g.1; omega
     · have h3 := (maxI_le.mp (Int.not_lt.mp h3)).1
       have : x.2 <= 240 := le240 (by omega) (by omega)
       simp only [List.mem_cons, List.not_mem_nil, or_false] at hy
       unfold small
       rcases hy with rfl | rfl <;> omega
     · rw [gcdL_two _ _ (by omega)] at h5; exact h5 g.2.2.2.2
     · unfold sumPre; simp; try omega
     · have h3 := (maxI_le.mp (Int.not_lt.mp h3)).1
       rw [gcdL_two _ _ (by omega)] at h5
       have gx : isGiv x := ⟨by omega, h3, by omega, by omega, by omega⟩
       rw [take_getD (d := (0, 0)) hlt, hx]
       intro y hy
       rw [List.mem_append, List.mem_singleton] at hy
       rcases hy with hy | hy
       · simp at hy
       · rw [hy]; exact gx
     · rw [take_getD (d := (0, 0)) hlt, hx]; exact ⟨rfl, rfl⟩
   · exact List.length_eq_zero_iff.mp (by omega)
 · refine of_eq (q := (fun (q : Nat) => (fun (m : Int) => (fun (j : Int) => (fun (i : Int) => (fun (f : Prop) => (fun (e : Int) => (fun (d : Prop) => (fun (c : Prop) => (fun (b : Prop) => (fun (p : Prop) => (fun (a : Int × Int) => (fun (o : Int) => (fun (n : Int) => (fun (h : Prop) => (fun (g : Prop) => c /\ (i < e -> idxPre i l.length /\ c /\ c /\ c /\ f /\ c /\ c /\ c /\ (n < m -> c /\ c /\ c /\ c /\ p) /\ (¬n < m -> f /\ c /\ ¬n = j /\ c /\ c /\ c /\ (¬Int.tmod (240 : Int) n = j -> c /\ c /\ p) /\ (¬¬Int.tmod (240 : Int) n = j -> d /\ c /\ d /\ c /\ c /\ c /\ c /\ c /\ c /\ (g -> p) /\ (¬g -> d /\ c /\ c /\ c /\ c /\ (o < (-1000000 : Int) -> c /\ b) /\ (¬o < (-1000000 : Int) -> d /\ c /\ f /\ c /\ c /\ ((smalls [o, n] /\ [o, n].length < 1000000) /\ c) /\ c /\ c /\ (h -> b) /\ (¬h -> c /\ d /\ c /\ f /\ c /\ c /\ c /\ sumPre (List.take k l).length [(o, n)].length (nat_lit 16) /\ c /\ inR .i64 (i + m) /\ c /\ ((∃ (y : Unit), (c /\ q + 1 < q - k) /\ (False /\ l = l /\ e = e /\ i + m = j /\ c) /\ c) ∨ ∃ (y : Nat), (inv80 l y /\ q - y < q - k) /\ (c /\ l = l /\ e = e /\ i + m = (y : Int) /\ c) /\ List.take k l ++ [(o, n)] = List.take y l /\ c))))))) /\ (¬i < e -> (∃ (y : Unit), l = [] /\ (False /\ c) /\ c) ∨ ∃ (y : Unit), (∀ (x : Int × Int), x ∈ l -> isGiv x) /\ (c /\ c) /\ List.take k l = l /\ c)) ((1000000 : Int) < maxI o (modU .i64 (j - o)))) (¬(↑(gcdL [o, n]) : Int) = m)) (a.snd)) (a.fst)) (l.getD k (j, j))) (c /\ c /\ c /\ b)) (c /\ c /\ c /\ (([] : List (Int × Int)) = openR l most /\ false = decide (given l most) /\ c) /\ c)) (True)) (idxPre j (2 : Nat))) ((q : Int))) (idxPre m (2 : Nat))) ((k : Int))) ((0 : Int))) ((1 : Int))) (l.length)) (by kernel_rfl) ?_
   simp only [zz]
   obtain ⟨hk1, hk2⟩ := hk
   refine ⟨fun hk' => ?_, fun hk' => ?_⟩
   · have hlt : k < l.length := by omega
     have bad := fun h => bad80 (most := most) hlt h
     generalize hx : l.getD k (0, 0) = x at *
     refine ⟨by unfold idxPre; omega, i12, fun h1 => bad fun g => ?_, fun h1 => ⟨i12, by omega, fun h2 => bad fun g => ?_, fun h2 => ⟨i02, i02, fun h3 => bad fun g => ?_, fun h3 => ⟨i02, fun h4 => bad fun g => ?_, fun h4 => ⟨i02, i12, ⟨fun y hy => ?_, by simp⟩, fun h5 => bad fun g => ?_, fun h5 => ⟨i02, i12, ?_, by simp only [inR]; omega, k + 1, ⟨⟨by omega, ?_⟩, by omega⟩, ?_⟩⟩⟩⟩⟩⟩
     · have := g.2.2.1; omega
     · exact h2 g.2.2.2.1
     · exact not_lt80 g h3
     · have := g.1; omega
     · have h3 := (maxI_le.mp (Int.not_lt.mp h3)).1
       have : x.2 <= 240 := le240 (by omega) (by omega)
       simp only [List.mem_cons, List.not_mem_nil, or_false] at hy
       unfold small
       rcases hy with rfl | rfl <;> omega
     · rw [gcdL_two _ _ (by omega)] at h5; exact h5 g.2.2.2.2
     · unfold sumPre; simp; try omega
     · have h3 := (maxI_le.mp (Int.not_lt.mp h3)).1
       rw [gcdL_two _ _ (by omega)] at h5
       have gx : isGiv x := ⟨by omega, h3, by omega, by omega, by omega⟩
       rw [take_getD (d := (0, 0)) hlt, hx]
       intro y hy
       rw [List.mem_append, List.mem_singleton] at hy
       rcases hy with hy | hy
       · exact hk2 y hy
       · rw [hy]; exact gx
     · rw [take_getD (d := (0, 0)) hlt, hx]; exact ⟨rfl, rfl⟩
   · rw [List.take_of_length_le (by omega)] at *; exact ⟨hk2, rfl⟩
theorem call80 (l : List (Int × Int)) (most : Int) (hl : l.length < 1000000) : GCall Tryd.prog gl 80 false [.sl Q2 l, .int .i64 most] [] [.sl FR (openR l most), .bool (decide (given l most))] [] := by
 refine gcall_of (X := (X80)) ((Xw_ok [e96] hs80)) (f := 80) (fn := Tryd.f80) (c := bodyOf Tryd.f80) (by kernel_rfl) (by kernel_rfl) (view := true) (rvs := [.tmp 4, .tmp 5]) (by kernel_rfl) (H := (H80 l)) 80 (by kernel_rfl) ?_
 have hL := loop80 l most hl
 refine of_eq (q := (fun (e : Prop) => (fun (d : Bool) => (fun (c : Int) => (fun (b : Prop) => (fun (a : Prop) => b /\ b /\ b /\ b /\ b /\ b /\ (c < 1 -> b /\ a) /\ (¬c < 1 -> b /\ b /\ b /\ b /\ b /\ (most < c -> a) /\ (¬most < c -> b /\ b /\ b /\ b /\ LoopOK X80 L80_0 { J := chks (0 : Nat) [(6 : Nat), (18 : Nat), (19 : Nat), (20 : Nat)] (fm80 l), exits := List.map (fun (x : List Nat × Ex) => x.snd) (ex80 l) } (R80 l most) /\ ((∃ (y : Unit), b /\ (b /\ l = l /\ c = (l.length : Int) /\ (0 : Int) = 0 /\ b) /\ b) ∨ ∃ (y : Nat), inv80 l y /\ (False /\ l = l /\ c = (l.length : Int) /\ (0 : Int) = (y : Int) /\ b) /\ False) /\ (∀ (y : Unit), l = [] -> b /\ b /\ b /\ b /\ (e /\ true = d /\ b) /\ b) /\ (∀ (y : Unit), (∀ (x : Int × Int), x ∈ l -> isGiv x) -> b /\ b /\ b /\ b /\ (l = openR l most /\ true = d /\ b) /\ b) /\ b))) (b /\ b /\ b /\ (e /\ false = d /\ b) /\ b)) (True)) ((l.length : Int))) (decide (given l most))) (([] : List (Int × Int)) = openR l most)) (by kernel_rfl) ?_
 simp only [zz]
 have hb : ¬ given l most -> [] = openR l most /\ false = decide (given l most) := fun hn => by simp [openR, hn]
 refine ⟨fun h => hb fun g => ?_, fun h => ⟨fun h2 => hb fun g => ?_, fun h2 => ⟨hL, fun _ h3 => ?_, fun _ h3 => ?_⟩⟩⟩
 · have := g.2.1; omega
 · have := g.2.2; omega
 · simp [h3] at h
 · have hg : given l most := ⟨h3, by omega, by omega⟩
   simp [openR, hg]
def e80 : Entry Tryd.prog gl := entry2 80 ⟨Tryd.f80, by kernel_rfl, by kernel_rfl, by kernel_rfl⟩ SQ I64 (fun l (most : Int) => l.length < 1000000) false (fun l (most : Int) => [.sl FR (openR l most), .bool (decide (given l most))]) (fun _ _ => []) (call80)
theorem call37 (l : List (Int × Int)) (hl : l.length < 1000000) : GCall Tryd.prog gl 37 true [.sl Q2 l] [] [.int .i64 (if given l 7 then chg l else 0), .int .i64 (if given l 7 then 0 else 1)] [] := by
 refine gcall_of (X := X [e80,e65]) (X_ok [e80,e65]) (f := 37) (fn := Tryd.f37) (c := bodyOf Tryd.f37) (by kernel_rfl) (by kernel_rfl) (view := false) (rvs := [.tmp 2, .tmp 3]) (by kernel_rfl) (H := fun _ => none) 80 (by kernel_rfl) ?_
 refine of_eq (q := True /\ True /\ True /\ (l.length + 1 <= 1000000 /\ True) /\ True /\ True /\ True /\ True /\ True /\ True /\ True /\ ((!decide (given l (7 : Int))) = true -> True /\ True /\ True /\ (((0 : Int) = if given l (7 : Int) then (↑(chg l) : Int) else (0 : Int)) /\ ((1 : Int) = if given l (7 : Int) then (0 : Int) else (1 : Int)) /\ True) /\ True) /\ ((!decide (given l (7 : Int))) = false -> True /\ ((openR l (7 : Int)).length + 1 <= 1000000 /\ True) /\ True /\ True /\ True /\ (((↑(chg (openR l (7 : Int))) : Int) = if given l (7 : Int) then (↑(chg l) : Int) else (0 : Int)) /\ ((0 : Int) = if given l (7 : Int) then (0 : Int) else (1 : Int)) /\ True) /\ True)) (by kernel_rfl) ?_
 simp only [zz]
 refine ⟨by omega, fun h => ?_, fun h => ?_⟩
 · have h : ¬ given l 7 := by simpa using h
   simp [h]
 · have h : given l 7 := by simpa using h
   simp [openR, h]; omega
def e37 : Entry Tryd.prog gl := entry1 37 ⟨Tryd.f37, by kernel_rfl, by kernel_rfl, by kernel_rfl⟩ SQ (fun l => l.length < 1000000) true (fun l => [.int .i64 (if given l 7 then chg l else 0), .int .i64 (if given l 7 then 0 else 1)]) (fun _ => []) (call37)
end Go.Am.Bern

/- Bern: proofs that are checked; the derivative. -/
namespace Go.Am.Bern
open Go Go.Am Go.Proofs
structure S31 where
 k : Nat
 a : Int
 m : Memo
end Go.Am.Bern

/- Bern: the derivative and the mirror. -/
namespace Go.Am.Bern
open Go Go.Am Go.Proofs
def smallR (l : List Int) : List Int := if coefs l then l else []
def smallE (l : List Int) : Int := if coefs l then 0 else 8
theorem call78 (l : List Int) (h : 1 <= l.length /\ l.length < 1000000) : GCall Tryd.prog gl 78 false [.sl I64 l] [] [.sl I64 (smallR l), .int .i64 (smallE l)] [] := by
 refine gcall_of (X := X [e89,e90]) (X_ok [e89,e90]) (f := 78) (fn := Tryd.f78) (c := bodyOf Tryd.f78) (by kernel_rfl) (by kernel_rfl) (view := true) (rvs := [.tmp 2, .tmp 3]) (by kernel_rfl) (H := fun _ => none) 80 (by kernel_rfl) ?_
 refine of_eq (q := (fun (c : Prop) => (fun (b : Prop) => (fun (a : Prop) => c /\ c /\ c /\ b /\ c /\ c /\ (minL l < (-100 : Int) -> c /\ a) /\ (¬minL l < (-100 : Int) -> c /\ b /\ c /\ c /\ ((100 : Int) < maxL l -> a) /\ (¬(100 : Int) < maxL l -> c /\ c /\ c /\ c /\ (l = smallR l /\ (0 : Int) = smallE l /\ c) /\ c))) (c /\ c /\ c /\ (([] : List Int) = smallR l /\ (8 : Int) = smallE l /\ c) /\ c)) (((1 : Nat) <= l.length /\ l.length < 1000000) /\ c)) (True)) (by kernel_rfl) ?_
 simp only [zz]
 have hc := coefs_iff h.1
 refine ⟨h, fun h1 => ?_, fun h1 => ⟨h, fun h2 => ?_, fun h2 => ?_⟩⟩
 · have : ¬ coefs l := by rw [hc]; omega
   simp [smallR, smallE, this]
 · have : ¬ coefs l := by rw [hc]; omega
   simp [smallR, smallE, this]
 · have : coefs l := by rw [hc]; omega
   simp [smallR, smallE, this]
def e78 : Entry Tryd.prog gl := entry1 78 ⟨Tryd.f78, by kernel_rfl, by kernel_rfl, by kernel_rfl⟩ SI (fun l => 1 <= l.length /\ l.length < 1000000) false (fun l => [.sl I64 (smallR l), .int .i64 (smallE l)]) (fun _ => []) (call78)
end Go.Am.Bern

/- Bern: the mirror. -/
namespace Go.Am.Bern
open Go Go.Am Go.Proofs
def sg (j : Nat) : Int := 1 - 2 * ((j : Int).tmod 2)
def mrow (c : Int) (k j : Nat) (l : List Int) : List Int := (List.range l.length).map fun i => if i < j then l.getD i 0 + c * ch k i * sg i else l.getD i 0
def mK (p : List Int) : Nat -> List Int
 | 0 => List.replicate p.length 0
 | k + 1 => mrow (p.getD k 0) k (k + 1) (mK p k)
def mir (p : List Int) : List Int := mK p p.length
theorem mrow_length (c : Int) (k j : Nat) (l : List Int) : (mrow c k j l).length = l.length := by simp [mrow]
theorem mrow_getD {c : Int} {k j : Nat} {l : List Int} {i : Nat} (h : i < l.length) : (mrow c k j l).getD i 0 = if i < j then l.getD i 0 + c * ch k i * sg i else l.getD i 0 := by
 simp [mrow, h]
theorem mrow_zero (c : Int) (k : Nat) (l : List Int) : mrow c k 0 l = l := by
 apply List.ext_getElem (by simp [mrow])
 intro i h1 h2
 simp [mrow, h2]
theorem mrow_set {c : Int} {k j : Nat} {l : List Int} (h : j < l.length) : (mrow c k j l).set j (l.getD j 0 + c * ch k j * sg j) = mrow c k (j + 1) l := by
 apply List.ext_getElem (by simp [mrow])
 intro i h1 h2
 have hi : i < l.length := by simpa [mrow] using h2
 rw [List.getElem_set]
 split
 · rename_i e; subst e; simp [mrow]
 · rename_i e
   simp only [mrow, List.getElem_map, List.getElem_range]
   by_cases h3 : i < j
   · rw [if_pos h3, if_pos (by omega)]
   · rw [if_neg h3, if_neg (by omega)]
theorem mK_length (p : List Int) : ∀ k, (mK p k).length = p.length
 | 0 => by simp [mK]
 | k + 1 => by rw [mK, mrow_length, mK_length p k]
theorem sg_cases (j : Nat) : ((j : Int).tmod 2 = 0 /\ sg j = 1) ∨ ((j : Int).tmod 2 = 1 /\ sg j = -1) := by
 unfold sg
 rw [Int.tmod_eq_emod_of_nonneg (by omega)]
 omega
theorem madd_bound {p : List Int} (hc : coefs p) {k i : Nat} (hk : k <= 6) (hi : i <= k) : -2000 <= p.getD k 0 * ch k i /\ p.getD k 0 * ch k i <= 2000 := by
 have h1 := ch_facts hk hi
 have := mul_abs (A := 100) (B := 20) (coefs_getD hc k) (b := ch k i) (by omega)
 omega
theorem getD_ge {α : Type} {l : List α} {i : Nat} {d : α} (h : l.length <= i) : l.getD i d = d := by
 rw [List.getD_eq_getElem?_getD, List.getElem?_eq_none h]; try rfl
theorem mrow_self (c : Int) (k j : Nat) (l : List Int) : (mrow c k j l).getD j 0 = l.getD j 0 := by
 rcases Nat.lt_or_ge j l.length with hi | hi
 · rw [mrow_getD hi, if_neg (by omega)]
 · rw [getD_ge (by rw [mrow_length]; exact hi), getD_ge hi]
theorem mK_bound {p : List Int} (hc : coefs p) : ∀ {k : Nat}, k <= 7 -> ∀ i, -(2000 * (k : Int)) <= (mK p k).getD i 0 /\ (mK p k).getD i 0 <= 2000 * k
 | 0, _, i => by
   have : (mK p 0).getD i 0 = 0 := by
     rw [mK, List.getD_eq_getElem?_getD, List.getElem?_replicate]; split <;> rfl
   rw [this]; simp
 | k + 1, h, i => by
   rcases Nat.lt_or_ge i p.length with hi | hi
   · rw [mK, mrow_getD (by rw [mK_length]; exact hi)]
     have ih := mK_bound hc (k := k) (by omega) i
     split
     · have hm := madd_bound hc (k := k) (i := i) (by omega) (by omega)
       rcases sg_cases i with ⟨_, e⟩ | ⟨_, e⟩ <;> rw [e] <;> omega
     · omega
   · rw [getD_ge (by rw [mK_length]; exact hi)]; omega
theorem mrow_bound {p : List Int} (hc : coefs p) {k j : Nat} (hk : k <= 6) (hj : j <= k + 1) (i : Nat) : -(2000 * ((k : Int) + 1)) <= (mrow (p.getD k 0) k j (mK p k)).getD i 0 /\ (mrow (p.getD k 0) k j (mK p k)).getD i 0 <= 2000 * ((k : Int) + 1) := by
 rcases Nat.lt_or_ge i p.length with hi | hi
 · rw [mrow_getD (by rw [mK_length]; exact hi)]
   have ih := mK_bound hc (k := k) (by omega) i
   split
   · have hm := madd_bound hc (k := k) (i := i) (by omega) (by omega)
     rcases sg_cases i with ⟨_, e⟩ | ⟨_, e⟩ <;> rw [e] <;> omega
   · omega
 · rw [getD_ge (by rw [mrow_length, mK_length]; exact hi)]; omega
def inv52 (p : List Int) (k : Nat) : Prop := k <= p.length
def jnv52 (k j : Nat) : Prop := j <= k + 1
noncomputable def L32_0 : Code := lp (bodyOf Tryd.f32) 0
noncomputable def L32_2 : Code := lp (bodyOf Tryd.f32) 2
def st32 (p : List Int) (k : Nat) : St := ⟨dd 5 ++ .own 0 0 :: (dd 12 ++ .sl I64 p :: .int .i64 p.length :: .int .i64 k :: dd 33), [.sc 0 3 I64 (mK p k)]⟩
def ex32 (p : List Int) : List (List Nat × Ex) := [([5], ⟨0, Unit, fun _ => True, fun _ => ⟨dd 5 ++ .own 0 0 :: dd 48, [.sc 0 3 I64 (mK p p.length)]⟩⟩)]
def sb32 (p : List Int) (k j : Nat) : St := ⟨dd 5 ++ .own 0 0 :: .int .i64 k :: .int .i64 (p.getD k 0) :: (dd 10 ++ .sl I64 p :: .int .i64 p.length :: .int .i64 k :: (dd 5 ++ .ar I64 7 (brow k) :: .int .i64 j :: dd 26)), [.sc 0 3 I64 (mrow (p.getD k 0) k j (mK p k))]⟩
def fx32 (p : List Int) (k : Nat) : List (List Nat × Ex) := [([5, 18, 19, 20], ⟨2, Unit, fun _ => True, fun _ => ⟨dd 5 ++ .own 0 0 :: (dd 12 ++ .sl I64 p :: .int .i64 p.length :: .int .i64 k :: dd 33), [.sc 0 3 I64 (mK p (k + 1))]⟩⟩)]
noncomputable def Hb32 (p : List Int) (k : Nat) : Nat -> Option Hint := fun _ => some ⟨chk 0 [5, 6, 7, 18, 19, 20, 26, 27] (jnv52 k) (sb32 p k), (fx32 p k).map (·.2)⟩
noncomputable def H32 (p : List Int) : Nat -> Option Hint := fun _ => some ⟨chk 0 [5, 18, 19, 20] (inv52 p) (st32 p), (ex32 p).map (·.2)⟩
theorem loop32b (p : List Int) (hp : isPoly p) (k : Nat) (hk : k < p.length) (R : Exit -> St -> Prop) : LoopOK (X [e56, e77, e78]) L32_2 ⟨chk 0 [5, 6, 7, 18, 19, 20, 26, 27] (jnv52 k) (sb32 p k), (fx32 p k).map (·.2)⟩ R := by
 refine loop_ok (X_ok [e56, e77, e78]) (H := fun _ _ => none) [5, 6, 7, 18, 19, 20, 26, 27] (jnv52 k) (sb32 p k) (fun j => k + 1 - j) (fx32 p k) 80 fun (j : Nat) hj => ?_
 refine of_eq (q := (fun (n : Nat) => (fun (l : List Int) => (fun (h : Int) => (fun (g : Prop) => (fun (f : Int) => (fun (e : Int) => (fun (o : Int) => (fun (c : Int) => (fun (b : Int) => (fun (a : List Int) => (fun (m : Int) => (fun (i : Prop) => (fun (d : Prop) => g /\ (e < 7 -> g /\ idxPre e (7 : Nat) /\ g /\ g /\ g /\ g /\ g /\ (f < e -> d) /\ (¬f < e -> g /\ ¬(2 : Int) = 0 /\ g /\ (e.tmod (2 : Int) = 1 -> g /\ inR .i64 (-c) /\ g /\ g /\ g /\ i /\ g /\ g /\ g /\ inR .i64 (b * -c) /\ inR .i64 (m + b * -c) /\ i /\ g /\ inR .i64 o /\ g /\ ∃ (y : Nat), (jnv52 k y /\ n - y < n - j) /\ (g /\ f = f /\ b = b /\ p = p /\ h = h /\ f = f /\ l = l /\ o = (y : Int) /\ g) /\ a.set j (m + b * -c) = mrow b k y (mK p k) /\ g) /\ (¬e.tmod (2 : Int) = 1 -> g /\ g /\ i /\ g /\ g /\ g /\ inR .i64 (b * c) /\ inR .i64 (m + b * c) /\ i /\ g /\ inR .i64 o /\ g /\ ∃ (y : Nat), (jnv52 k y /\ n - y < n - j) /\ (g /\ f = f /\ b = b /\ p = p /\ h = h /\ f = f /\ l = l /\ o = (y : Int) /\ g) /\ a.set j (m + b * c) = mrow b k y (mK p k) /\ g))) /\ (¬e < 7 -> d)) (∃ (y : Unit), g /\ (g /\ p = p /\ h = h /\ f = f /\ g) /\ a = mK p n /\ g)) (idxPre e a.length)) (a.getD j (0 : Int))) (mrow b k j (mK p k))) (p.getD k (0 : Int))) (l.getD j (0 : Int))) (e + 1)) ((j : Int))) ((k : Int))) (True)) ((p.length : Int))) (brow k)) (k + 1)) (by kernel_rfl) ?_
 simp only [zz]
 unfold jnv52 at *
 have hl := hp.2.1
 have hb := mrow_bound hp.2.2 (k := k) (j := j + 1)
 have hm := madd_bound hp.2.2 (k := k) (i := j)
 have hs := mrow_set (c := p.getD k 0) (k := k) (j := j) (l := mK p k)
 have hn := mrow_length (p.getD k 0) k j (mK p k)
 have hn2 := mK_length p k
 have hg := mrow_getD (c := p.getD k 0) (k := k) (j := j + 1) (l := mK p k) (i := j)
 rw [mrow_self]
 have hx : j = k + 1 -> mrow (p.getD k 0) k j (mK p k) = mK p (k + 1) := fun h => by rw [h]; try rfl
 refine ⟨fun h => ⟨by unfold idxPre; omega, fun h1 => hx (by omega), fun h1 => ?_⟩, fun h => hx (by omega)⟩
 have hb := hb (by omega) (by omega) j
 have hm := hm (by omega) (by omega)
 have hs := hs (by omega)
 rw [hg (by omega), if_pos (by omega)] at hb
 rw [brow_get (by omega) (by omega)]
 have hc := ch_facts (n := k) (k := j) (by omega) (by omega)
 rcases sg_cases j with ⟨h2, h3⟩ | ⟨h2, h3⟩
 · rw [h3] at hb hs
   rw [show p.getD k 0 * ch k j * 1 = p.getD k 0 * ch k j by omega] at hb hs
   exact ⟨by omega, fun h4 => by omega, fun _ => ⟨by unfold idxPre; omega, by simp only [inR]; omega, by simp only [inR]; omega, by unfold idxPre; omega, by simp only [inR]; omega, j + 1, ⟨by omega, by omega⟩, rfl, hs⟩⟩
 · rw [h3] at hb hs
   rw [show p.getD k 0 * ch k j * -1 = p.getD k 0 * -ch k j by rw [Int.mul_neg, Int.mul_neg]; omega] at hb hs
   have : p.getD k 0 * -ch k j = - (p.getD k 0 * ch k j) := Int.mul_neg ..
   exact ⟨by omega, fun _ => ⟨by simp only [inR]; omega, by unfold idxPre; omega, by simp only [inR]; omega, by simp only [inR]; omega, by unfold idxPre; omega, by simp only [inR]; omega, j + 1, ⟨by omega, by omega⟩, rfl, hs⟩, fun h4 => by omega⟩
theorem loop32 (p : List Int) (hp : isPoly p) (R : Exit -> St -> Prop) : LoopOK (X [e56, e77, e78]) L32_0 ⟨chk 0 [5, 18, 19, 20] (inv52 p) (st32 p), (ex32 p).map (·.2)⟩ R := by
 refine loop_ok (X_ok [e56, e77, e78]) (H := fun k => Hb32 p k) [5, 18, 19, 20] (inv52 p) (st32 p) (fun k => p.length - k) (ex32 p) 80 fun (k : Nat) hk => ?_
 have hL := loop32b p hp k
 refine of_eq (q := (fun (e : Int) => (fun (d : Cy) => (fun (c : Prop) => (fun (b : Int) => (fun (a : Int) => c /\ (a < b -> c /\ idxPre a p.length /\ c /\ c /\ c /\ c /\ ((e <= a /\ a <= 6) /\ c) /\ c /\ LoopOK d L32_2 { J := chk (0 : Nat) [(5 : Nat), (6 : Nat), (7 : Nat), (18 : Nat), (19 : Nat), (20 : Nat), (26 : Nat), (27 : Nat)] (jnv52 k) (sb32 p k), exits := List.map (fun (x : List Nat × Ex) => x.snd) (fx32 p k) } (bodyR d.m0 (ex32 p) R) /\ (∃ (y : Nat), jnv52 k y /\ (c /\ a = a /\ p.getD k e = p.getD k e /\ p = p /\ b = b /\ a = a /\ brow k = brow k /\ e = (y : Int) /\ c) /\ mK p k = mrow (p.getD k e) k y (mK p k) /\ c) /\ (∀ (y : Unit), c -> inR .i64 (a + 1) /\ c /\ ∃ (y : Nat), (inv52 p y /\ p.length - y < p.length - k) /\ (c /\ p = p /\ b = b /\ a + 1 = (y : Int) /\ c) /\ mK p (k + 1) = mK p y /\ c) /\ c) /\ (¬a < b -> ∃ (y : Unit), c /\ (c /\ c) /\ mK p k = mK p p.length /\ c)) ((k : Int))) ((p.length : Int))) (True)) (X [e56, e77, e78])) ((0 : Int))) (by kernel_rfl) ?_
 simp only [zz]
 unfold inv52 at *
 have hl := hp.2.1
 exact ⟨fun h => ⟨idx_nat (by omega), by omega, hL (by omega) _, ⟨0, Nat.zero_le _, rfl, (mrow_zero ..).symm⟩, fun _ _ => ⟨by simp only [inR]; omega, k + 1, ⟨by omega, by omega⟩, rfl, rfl⟩⟩, fun h => by rw [show k = p.length by omega]⟩
def mirR (p : List Int) : List Int := if isPoly p then smallR (mir p) else []
def mirE (p : List Int) : Int := if isPoly p then smallE (mir p) else 80
theorem call32 (p : List Int) (hp : p.length < 1000000) : GCall Tryd.prog gl 32 false [.sl I64 p] [] [.sl I64 (mirR p), .int .i64 (mirE p)] [] := by
 refine gcall_of (X := X [e56,e77,e78]) (X_ok [e56,e77,e78]) (f := 32) (fn := Tryd.f32) (c := bodyOf Tryd.f32) (by kernel_rfl) (by kernel_rfl) (view := true) (rvs := [.tmp 2, .tmp 3]) (by kernel_rfl) (H := (H32 p)) 80 (by kernel_rfl) ?_
 have hL := loop32 p
 refine of_eq (q := (fun (d : Cy) => (fun (c : List Int) => (fun (b : Prop) => (fun (a : Int) => b /\ b /\ b /\ (p.length + 1 <= 1000000 /\ b) /\ b /\ b /\ b /\ (¬errOf p = 0 -> b /\ b /\ b /\ b /\ (([] : List Int) = mirR p /\ errOf p = mirE p /\ b) /\ b) /\ (¬¬errOf p = 0 -> b /\ b /\ ((0 : Int) <= a /\ a <= a /\ a * (↑(nat_lit 8) : Int) <= 140737488355328 /\ a <= 140737488355328) /\ b /\ b /\ b /\ b /\ LoopOK d L32_0 { J := chk (0 : Nat) [(5 : Nat), (18 : Nat), (19 : Nat), (20 : Nat)] (inv52 p) (st32 p), exits := List.map (fun (x : List Nat × Ex) => x.snd) (ex32 p) } (RetR d false true [ResultVar.tmp (2 : Tmp), ResultVar.tmp (3 : Tmp)] [AV.sl I64 (mirR p), AV.int .i64 (mirE p)] []) /\ (∃ (y : Nat), inv52 p y /\ (b /\ p = p /\ a = (p.length : Int) /\ (0 : Int) = (y : Int) /\ b) /\ List.replicate p.length (Ty.int .i64).dflt = mK p y /\ b) /\ (∀ (y : Unit), b -> b /\ (((1 : Nat) <= c.length /\ c.length < 1000000) /\ b) /\ b /\ b /\ b /\ b /\ b /\ (smallR c = mirR p /\ smallE c = mirE p /\ b) /\ b) /\ b)) ((p.length : Int))) (True)) (mK p p.length)) (X [e56, e77, e78])) (by kernel_rfl) ?_
 simp only [zz]
 refine ⟨by omega, fun he => ?_, fun he => ?_⟩
 · have hn : ¬ isPoly p := fun h' => he (by simp [errOf, h'])
   simp [mirR, mirE, errOf, hn]
 · have hy : isPoly p := errOf_poly he
   have h1 := hy.1
   have h2 := hy.2.1
   have h3 := mK_length p p.length
   exact ⟨by omega, hL hy _, ⟨0, Nat.zero_le _, rfl, rfl⟩, fun _ _ => ⟨by omega, by simp [mirR, mir, hy], by simp [mirE, mir, hy]⟩⟩
end Go.Am.Bern

/- Bern: lists of corners. -/
namespace Go.Am.Bern
open Go Go.Am Go.Proofs
theorem giv_good {x : Int × Int} (h : isGiv x) : good x := by
 unfold good rat
 rw [<- fracR_eq (by have := h.2.2.1; omega)]
 unfold fracR
 rw [h.2.2.2.2]; simp
theorem giv_fr {x : Int × Int} (h : isGiv x) : fr 240 240000000 (rat x) := by
 obtain ⟨h1, h2, h3, h4, h5⟩ := h
 obtain ⟨c, hc⟩ := Int.dvd_of_tmod_eq_zero h4
 have c1 : 1 <= c := by
   false_or_by_contra; rename_i hn
   have := Int.mul_nonneg (a := x.2) (b := -c) (by omega) (by omega)
   rw [Int.mul_neg] at this; omega
 have c2 : c <= 240 := by
   have := Int.mul_le_mul_of_nonneg_right (show 1 <= x.2 by omega) (show 0 <= c by omega); omega
 refine ⟨x.1 * c, ?_, ?_⟩
 · unfold rat; rw [hc, Rat.divInt_mul_right (by omega)]
 · have := mul_abs (a := x.1) (b := c) (A := 1000000) (B := 240) (by omega) (by omega); omega
theorem given_facts {l : List (Int × Int)} {m : Int} (h : given l m) : goodL l /\ frs 240 240000000 (rats l) := by
 constructor
 · have : ∀ l : List (Int × Int), (∀ x ∈ l, isGiv x) -> goodL l := by
     intro l
     induction l with
     | nil => intro _; try rfl
     | cons a l ih =>
       intro h
       have h1 : good a := giv_good (h a (by simp))
       have h2 := ih fun x hx => h x (by simp [hx])
       unfold goodL at *
       unfold good at h1
       simp only [rats, qs, List.map_cons] at *
       rw [h1, h2]
   exact this l h.1
 · intro r hr
   simp only [rats, List.mem_map] at hr
   obtain ⟨x, hx, rfl⟩ := hr
   exact giv_fr (h.1 x hx)
theorem rats_length (l : List (Int × Int)) : (rats l).length = l.length := by simp [rats]
theorem pow16 : ∀ n : Fin 17, 240 * (n.val : Int) ^ 7 < 9223372036854775808 /\ 240000000 * (n.val : Int) ^ 7 < 9223372036854775808 := by decide
theorem given_dv {l : List (Int × Int)} {x : Int × Int} {m : Int} (h : given l m) (hm : m <= 7) (hx : isPoint x 16) : Dv 240 240000000 x.2 (rat x) (rats l) := by
 have hp := point_part (m := 16) hx
 have hg : qp (rat x) = x := hp.1
 have e2 : ((rat x).den : Int) = x.2 := by rw [<- hg]; simp
 have := hx.1
 have := hx.2.1
 have hw := pow16 ⟨x.2.toNat, by omega⟩
 dsimp only at hw
 rw [Int.toNat_of_nonneg (by omega)] at hw
 exact ⟨by decide, by decide, e2, ⟨hp.2.1, hp.2.2.1⟩, hw.1, hw.2, by rw [rats_length]; have := h.2; omega, (given_facts h).2⟩
theorem point_half : isPoint (1, 2) 16 := by unfold isPoint; decide
def atR (l : List (Int × Int)) (x : Int × Int) : Int × Int := if given l 7 /\ isPoint x 16 then (qs (dvR (rat x) (rats l))).getD 0 (0, 0) else (0, 0)
def rz (l : List Rat) (i : Nat) : Rat := (if 0 < i then l.getD (i - 1) 0 * Rat.divInt i l.length else 0) + (if i < l.length then l.getD i 0 * Rat.divInt ((l.length - i : Nat) : Int) l.length else 0)
def rzs (l : List Rat) (i : Nat) : List Rat := (List.range i).map (rz l)
theorem rzs_length (l : List Rat) (i : Nat) : (rzs l i).length = i := by simp [rzs]
theorem rzs_step (l : List Rat) (i : Nat) : rzs l (i + 1) = rzs l i ++ [rz l i] := by simp [rzs, List.range_succ]
def raise (l : List Rat) : List Rat := rzs l (l.length + 1)
theorem frs_getD {D M : Int} {l : List Rat} {i : Nat} (h : frs D M l) (hi : i < l.length) : fr D M (l.getD i 0) := h _ (getD_mem hi)
theorem rz_mul {l : List Rat} (h : frs 240 240000000 l) (hl : l.length <= 6) {i k : Nat} (hi : i < l.length) (hk : k <= l.length) : mulOk (l.getD i 0) (Rat.divInt k l.length) /\ fr (240 * (l.length : Int)) 1440000000 (l.getD i 0 * Rat.divInt k l.length) := by
 have h1 := frs_getD h hi
 have h2 := h1.mul (D' := (l.length : Int)) (n := (k : Int)) 6 ⟨by omega, by omega⟩
 have h3 := part_div (k := k) (D := l.length) (m := 6) (by omega) hk hl
 refine ⟨⟨h1.sq (by omega) (by omega) (by omega), ⟨by unfold small; have := h3.1; have := h3.2; omega, by unfold small; have := h3.2; omega⟩, _, _, ?_, ?_, ?_, h2⟩, h2.by rfl (by omega)⟩ <;> omega
theorem rz_add {l : List Rat} (h : frs 240 240000000 l) (hl : l.length <= 6) {i j k m : Nat} (hi : i < l.length) (hj : j < l.length) (hk : k <= l.length) (hm : m <= l.length) : addOk (l.getD i 0 * Rat.divInt k l.length) (l.getD j 0 * Rat.divInt m l.length) :=
 ⟨_, _, _, by omega, by omega, (rz_mul h hl hi hk).2, (rz_mul h hl hj hm).2, by omega⟩
theorem zero_addOk {D M : Int} {r : Rat} (h : fr D M r) (hD : 0 < D /\ D < 9223372036854775808) (hM : M < 9223372036854775808) : addOk 0 r :=
 ⟨D, 0, M, hD.1, hD.2, ⟨0, by rw [Rat.zero_divInt], by omega, by omega⟩, h, by omega⟩
theorem div_self {n : Nat} (h : 0 < n) : Rat.divInt n n = 1 := by
 have := Rat.divInt_mul_right (n := 1) (d := 1) (a := (n : Int)) (by omega)
 rw [Int.one_mul] at this; rw [this]; try rfl
theorem rz_first {l : List Rat} (h : 0 < l.length) : rz l 0 = l.getD 0 0 := by
 simp [rz, h, div_self h, Rat.zero_add, Rat.mul_one]
theorem rz_last {l : List Rat} (h : 0 < l.length) : rz l l.length = l.getD (l.length - 1) 0 := by
 simp [rz, h, div_self h, Rat.add_zero, Rat.mul_one]
theorem rz_mid {l : List Rat} {i : Nat} (h0 : 0 < i) (h : i < l.length) : rz l i = l.getD (i - 1) 0 * Rat.divInt i l.length + l.getD i 0 * Rat.divInt ((l.length - i : Nat) : Int) l.length := by
 simp [rz, h0, h]
def raiseR (l : List (Int × Int)) : List (Int × Int) := if given l 6 then qs (raise (rats l)) else []
noncomputable def L34_0 : Code := lp (bodyOf Tryd.f34) 0
def st34 (q : List Rat) (i : Nat) : St := ⟨.dead :: .dead :: .dead :: .dead :: .sl FR (qs q) :: .dead :: .int .i64 q.length :: .own 0 0 :: .int .i64 i :: dd 50, [.sc 0 106 FR (qs (rzs q i))]⟩
def inv34 (q : List Rat) (i : Nat) : Prop := 1 <= i /\ i <= q.length
def ex34 (q : List Rat) : List (List Nat × Ex) := [([4, 6, 7], ⟨0, Unit, fun _ => True, fun _ => ⟨.dead :: .dead :: .dead :: .dead :: .sl FR (qs q) :: .dead :: .int .i64 q.length :: .own 0 0 :: dd 51, [.sc 0 106 FR (qs (rzs q q.length))]⟩⟩)]
noncomputable def H34 (q : List Rat) : Nat -> Option Hint := fun _ => some ⟨chk 0 [4, 6, 7, 8] (inv34 q) (st34 q), (ex34 q).map (·.2)⟩
noncomputable def X34 : Cy := Xd [e80, e74, e81, e82, e58] (drOf [(9, 22)])
theorem loop34 (q : List Rat) (h : frs 240 240000000 q) (hl : q.length <= 6) (R : Exit -> St -> Prop) : LoopOK X34 L34_0 ⟨chk 0 [4, 6, 7, 8] (inv34 q) (st34 q), (ex34 q).map (·.2)⟩ R := by
 refine loop_ok (Xd_ok _ _) (H := fun _ _ => none) [4, 6, 7, 8] (inv34 q) (st34 q) (fun i => q.length - i) (ex34 q) 80 fun (i : Nat) hi => ?_
 refine of_eq (q := (fun (p : Int) => (fun (o : Int) => (fun (l : Prop) => (fun (k : List (Int × Int)) => (fun (g : Int × Int) => (fun (f : Int) => (fun (e : Int × Int) => (fun (d : Int) => (fun (j : Int × Int) => (fun (h : Int × Int) => (fun (c : Rat) => (fun (n : Int × Int) => (fun (b : Rat) => (fun (m : Int × Int) => (fun (a : Rat) => l /\ l /\ l /\ (f < d -> l /\ l /\ l /\ inR .i64 (f - p) /\ idxPre (f - p) k.length /\ l /\ l /\ l /\ (small f /\ small d /\ o < d) /\ (good (e.fst, e.snd) /\ good j /\ mulOk (rat (e.fst, e.snd)) (rat j)) /\ l /\ l /\ idxPre f k.length /\ l /\ l /\ l /\ inR .i64 (d - f) /\ l /\ (small (d - f) /\ small d /\ o < d) /\ (good (g.fst, g.snd) /\ good h /\ mulOk (rat (g.fst, g.snd)) (rat h)) /\ (good m /\ good n /\ addOk (rat m) (rat n)) /\ l /\ sumPre (qs (rzs q i)).length [(a.num, (a.den : Int))].length (nat_lit 16) /\ l /\ l /\ inR .i64 (f + p) /\ l /\ ∃ (y : Nat), (inv34 q y /\ q.length - y < q.length - i) /\ (k = k /\ d = d /\ l /\ f + p = (y : Int) /\ l) /\ qs (rzs q i) ++ [(a.num, (a.den : Int))] = qs (rzs q y) /\ l) /\ (¬f < d -> ∃ (y : Unit), l /\ (k = k /\ d = d /\ l /\ l) /\ qs (rzs q i) = qs (rzs q q.length) /\ l)) (rat m + rat n)) ((b.num, (b.den : Int)))) (rat (e.fst, e.snd) * rat j)) ((c.num, (c.den : Int)))) (rat (g.fst, g.snd) * rat h)) (((fracR (d - f) d).fst, (fracR (d - f) d).snd))) (((fracR f d).fst, (fracR f d).snd))) ((q.length : Int))) (k.getD (f - p).toNat (o, o))) ((i : Int))) (k.getD i (o, o))) (qs q)) (True)) ((0 : Int))) ((1 : Int))) (by kernel_rfl) ?_
 simp only [zz]
 obtain ⟨h1, h2⟩ := hi
 refine ⟨fun h3 => ?_, fun h3 => by rw [show i = q.length by omega]⟩
 have hq := qs_length q
 have e1 : ((i : Int) - 1).toNat = i - 1 := by omega
 have e2 : (qs q).getD (i - 1) (0, 0) = qp (q.getD (i - 1) 0) := qs_getD (by omega)
 have e3 : (qs q).getD i (0, 0) = qp (q.getD i 0) := qs_getD (by omega)
 have e4 : fracR (i : Int) q.length = qp (Rat.divInt i q.length) := fracR_div (by omega)
 have e5 : fracR ((q.length : Int) - i) q.length = qp (Rat.divInt ((q.length - i : Nat) : Int) q.length) := by
   rw [show ((q.length : Int) - i) = ((q.length - i : Nat) : Int) by omega]; exact fracR_div (by omega)
 simp only [e1, e2, e3, e4, e5, qp_fst, qp_snd, rat_num_den]
 have m1 := rz_mul h hl (i := i - 1) (k := i) (by omega) (by omega)
 have m2 := rz_mul h hl (i := i) (k := q.length - i) (by omega) (by omega)
 have a1 := rz_add h hl (i := i - 1) (j := i) (k := i) (m := q.length - i) (by omega) (by omega) (by omega) (by omega)
 refine ⟨by simp only [inR]; omega, by unfold idxPre; omega, ⟨by unfold small; omega, by unfold small; omega, by omega⟩, ⟨good_nd _, good_nd _, m1.1⟩, by unfold idxPre; omega, by simp only [inR]; omega, ⟨by unfold small; omega, by unfold small; omega, by omega⟩, ⟨good_nd _, good_nd _, m2.1⟩, ⟨good_nd _, good_nd _, a1⟩, ?_, by simp only [inR]; omega, i + 1, ⟨⟨by omega, by omega⟩, by omega⟩, rfl, ?_⟩
 · unfold sumPre; rw [qs_length, rzs_length]; simp; omega
 · rw [rzs_step, rz_mid (by omega) (by omega)]; simp [qs]; try rfl
theorem call34 (l : List (Int × Int)) (hl : l.length < 1000000) : GCall Tryd.prog gl 34 false [.sl Q2 l] [] [.sl Q2 (raiseR l), .int .i64 (if given l 6 then 0 else 1)] [] := by
 refine gcall_of (X := (X34)) ((Xd_ok _ _)) (f := 34) (fn := Tryd.f34) (c := bodyOf Tryd.f34) (by kernel_rfl) (by kernel_rfl) (view := true) (rvs := [.tmp 2, .tmp 3]) (by kernel_rfl) (H := (H34 (rats l))) 80 (by kernel_rfl) ?_
 have hL := loop34 (rats l)
 refine of_eq (q := (fun (A : Prop) => (fun (z : Prop) => (fun (w : Prop) => (fun (v : Prop) => (fun (u : Prop) => (fun (t : Prop) => (fun (s : Prop) => (fun (r : Prop) => (fun (q : Prop) => (fun (p : Prop) => (fun (o : Prop) => (fun (n : Prop) => (fun (m : Prop) => (fun (k : Prop) => (fun (j : Prop) => (fun (i : Prop) => (fun (g : Int) => (fun (e : List (Int × Int)) => (fun (d : Prop) => (fun (c : Int) => (fun (b : List Rat) => (fun (h : Int) => (fun (f : List (Int × Int)) => (fun (a : Int × Int) => d /\ d /\ d /\ (l.length + 1 <= 1000000 /\ d) /\ d /\ d /\ d /\ d /\ d /\ d /\ d /\ ((!decide (given l (6 : Int))) = true -> d /\ d /\ d /\ (([] : List (Int × Int)) = raiseR l /\ (1 : Int) = c /\ d) /\ d) /\ ((!decide (given l (6 : Int))) = false -> d /\ d /\ d /\ d /\ idxPre g e.length /\ d /\ d /\ d /\ d /\ LoopOK X34 L34_0 { J := chk (0 : Nat) [(4 : Nat), (6 : Nat), (7 : Nat), (8 : Nat)] (inv34 b) (st34 b), exits := List.map (fun (x : List Nat × Ex) => x.snd) (ex34 b) } (RetR X34 false true [ResultVar.tmp (2 : Tmp), ResultVar.tmp (3 : Tmp)] [AV.sl Q2 (raiseR l), AV.int .i64 c] []) /\ (∃ (y : Nat), inv34 b y /\ (e = qs b /\ (e.length : Int) = (b.length : Int) /\ d /\ (1 : Int) = (y : Int) /\ d) /\ [((e.getD (0 : Nat) (g, g)).fst, (e.getD (0 : Nat) (g, g)).snd)] = qs (rzs b y) /\ d) /\ (∀ (y : Unit), d -> d /\ d /\ d /\ inR .i64 h /\ idxPre h (qs b).length /\ d /\ d /\ sumPre f.length [(a.fst, a.snd)].length (nat_lit 16) /\ ((f ++ [(a.fst, a.snd)]).length + 1 <= 1000000 /\ d) /\ d /\ d /\ d /\ (f ++ [(a.fst, a.snd)] = raiseR l /\ g = c /\ d) /\ d) /\ d)) ((qs b).getD h.toNat (g, g))) (qs (rzs b b.length))) ((b.length : Int) - 1)) (rats l)) (if given l (6 : Int) then g else (1 : Int))) (True)) (openR l (6 : Int))) ((0 : Int))) (j)) (k)) (m)) (n)) (o)) (p)) (q)) (r)) (s)) (t)) (u)) (v)) (w)) (z)) (A)) (given l (6 : Int))) (by kernel_rfl) ?_
 simp only [zz]
 refine ⟨by omega, fun h => ?_, fun h => ?_⟩
 · have h : ¬ given l 6 := by simpa using h
   simp [raiseR, h]
 · have h : given l 6 := by simpa using h
   have e : openR l 6 = l := by simp [openR, h]
   have hg := given_facts h
   have h3 := rats_length l
   have h4 := h.2
   have hgl : qs (rats l) = l := hg.1
   have hq := qs_length (rzs (rats l) (rats l).length)
   have hr := rzs_length (rats l) (rats l).length
   have e1 : (((rats l).length : Int) - 1).toNat = (rats l).length - 1 := by omega
   have e2 : l.getD 0 (0, 0) = qp ((rats l).getD 0 0) := by have := qs_getD (l := rats l) (k := 0) (by omega); rwa [hgl] at this
   have e3 : l.getD ((rats l).length - 1) (0, 0) = qp ((rats l).getD ((rats l).length - 1) 0) := by have := qs_getD (l := rats l) (k := (rats l).length - 1) (by omega); rwa [hgl] at this
   have hlen : (qs (rzs (rats l) (rats l).length) ++ [qp ((rats l).getD ((rats l).length - 1) 0)]).length = (rats l).length + 1 := by rw [List.length_append, qs_length, rzs_length]; try rfl
   rw [e, hgl, e1, e2, e3]
   refine ⟨by unfold idxPre; omega, hL hg.2 (by omega) _, ⟨1, ⟨by omega, by omega⟩, ⟨rfl, by omega, rfl⟩, ?_⟩, fun _ _ => ⟨by simp only [inR]; omega, by unfold idxPre; omega, by unfold sumPre; rw [qs_length, rzs_length]; simp; omega, Nat.le_trans (Nat.le_of_eq (congrArg (· + 1) hlen)) (by omega), ?_, by simp [h]⟩⟩
   · simp only [rzs, List.range_one, List.map_cons, List.map_nil, qs]
     rw [rz_first (by omega)]
     try rfl
   · rw [raiseR, if_pos h, raise, rzs_step, rz_last (by omega)]
     simp [qs]; try rfl
def e34 : Entry Tryd.prog gl := entry1 34 ⟨Tryd.f34, by kernel_rfl, by kernel_rfl, by kernel_rfl⟩ SQ (fun l => l.length < 1000000) false (fun l => [.sl Q2 (raiseR l), .int .i64 (if given l 6 then 0 else 1)]) (fun _ => []) (call34)
noncomputable def L39_0 : Code := lp (bodyOf Tryd.f39) 0
def sz39 (q : List Rat) (_ : Unit) : St := ⟨.sl Q2 (qs q) :: .dead :: .dead :: .int .i64 q.length :: .vv (.slice none 0 0) :: .int .i64 0 :: dd 42, []⟩
def st39 (q : List Rat) (i : Nat) : St := ⟨.sl Q2 (qs q) :: .dead :: .dead :: .int .i64 q.length :: .own 0 0 :: .int .i64 i :: dd 42, [.sc 0 48 Q2 (qs (rzs q i))]⟩
def fm39 (q : List Rat) : List Fam := [⟨Unit, fun _ => True, sz39 q, fun _ => q.length + 2, fun _ _ => none⟩, ⟨Nat, fun i => 1 <= i /\ i <= q.length + 1, st39 q, fun i => q.length + 1 - i, fun _ _ => none⟩]
def ex39 (q : List Rat) : List (List Nat × Ex) := [([4], ⟨0, Unit, fun _ => True, fun _ => ⟨.dead :: .dead :: .dead :: .dead :: .own 0 0 :: dd 43, [.sc 0 48 Q2 (qs (raise q))]⟩⟩)]
noncomputable def H39 (q : List Rat) : Nat -> Option Hint := fun _ => some ⟨chks 0 [0, 3, 4, 5] (fm39 q), (ex39 q).map (·.2)⟩
theorem loop39 (q : List Rat) (h : frs 240 240000000 q) (h1 : 1 <= q.length) (hl : q.length <= 6) (R : Exit -> St -> Prop) : LoopOK (X [e46, e86, e87]) L39_0 ⟨chks 0 [0, 3, 4, 5] (fm39 q), (ex39 q).map (·.2)⟩ R := by
 refine loop_fams (X_ok [e46, e86, e87]) [0, 3, 4, 5] (fm39 q) (ex39 q) 100 ⟨fun _ _ => ?_, fun (i : Nat) hi => ?_, trivial⟩
 · refine of_eq (q := (fun (x : Nat) => (fun (w : Nat) => (fun (p : Nat) => (fun (o : Int) => (fun (s : Prop) => (fun (n : Nat) => (fun (l : List (Int × Int)) => (fun (j : Prop) => (fun (g : Int) => (fun (k : Rat) => (fun (d : Int × Int) => (fun (c : Int) => (fun (u : Prop) => (fun (m : Int × Int) => (fun (i : Int × Int) => (fun (r : Prop) => (fun (f : Prop) => (fun (b : Rat) => (fun (v : Int × Int) => (fun (h : Rat) => (fun (z : Int × Int) => (fun (a : Int × Int) => (fun (e : Int × Int) => (fun (t : Int × Int) => j /\ j /\ j /\ (g <= c -> j /\ j /\ j /\ j /\ j /\ (g < g -> j /\ j /\ j /\ inR .i64 (-o) /\ idxPre (-o) l.length /\ j /\ j /\ j /\ (small g /\ small c) /\ (good d /\ good m /\ mulOk (rat d) (rat m)) /\ (good (g, o) /\ good a /\ addOk k (rat a)) /\ j /\ j /\ j /\ j /\ (g < c -> j /\ j /\ j /\ idxPre g l.length /\ j /\ j /\ j /\ inR .i64 (c - g) /\ j /\ u /\ r /\ (good e /\ good v /\ addOk (rat e) h) /\ j /\ j /\ j /\ j /\ sumPre w [t].length (nat_lit 16) /\ j /\ j /\ s /\ j /\ (f ∨ ∃ (y : Nat), ((x <= y /\ y <= n) /\ n - y < p) /\ (l = l /\ c = c /\ j /\ o = (y : Int) /\ j) /\ [t] = qs (rzs q y) /\ j)) /\ (¬g < c -> j /\ j /\ j /\ sumPre w [e].length (nat_lit 16) /\ j /\ j /\ s /\ j /\ (f ∨ ∃ (y : Nat), ((x <= y /\ y <= n) /\ n - y < p) /\ (l = l /\ c = c /\ j /\ o = (y : Int) /\ j) /\ [e] = qs (rzs q y) /\ j))) /\ (¬g < g -> j /\ j /\ j /\ (g < c -> j /\ j /\ j /\ idxPre g l.length /\ j /\ j /\ j /\ inR .i64 (c - g) /\ j /\ u /\ r /\ (good (g, o) /\ good v /\ addOk k h) /\ j /\ j /\ j /\ j /\ sumPre w [z].length (nat_lit 16) /\ j /\ j /\ s /\ j /\ (f ∨ ∃ (y : Nat), ((x <= y /\ y <= n) /\ n - y < p) /\ (l = l /\ c = c /\ j /\ o = (y : Int) /\ j) /\ [z] = qs (rzs q y) /\ j)) /\ (¬g < c -> j /\ j /\ j /\ sumPre w [(g, o)].length (nat_lit 16) /\ j /\ j /\ s /\ j /\ (f ∨ ∃ (y : Nat), ((x <= y /\ y <= n) /\ n - y < p) /\ (l = l /\ c = c /\ j /\ o = (y : Int) /\ j) /\ [(g, o)] = qs (rzs q y) /\ j)))) /\ (¬g <= c -> ∃ (y : Unit), j /\ (False /\ j) /\ False)) (((rat e + h).num, (↑(rat e + h).den : Int)))) (((k + rat a).num, (↑(k + rat a).den : Int)))) (((rat d * rat m).num, (↑(rat d * rat m).den : Int)))) (((k + h).num, (↑(k + h).den : Int)))) (rat v)) ((b.num, (b.den : Int)))) (rat d * rat i)) (∃ (y : Unit), (j /\ p < p) /\ (l = l /\ c = c /\ False /\ o = g /\ j) /\ j)) (good d /\ good i /\ mulOk (rat d) (rat i))) (((fracR (c - g) c).fst, (fracR (c - g) c).snd))) (((fracR g c).fst, (fracR g c).snd))) (small (c - g) /\ small c)) ((q.length : Int))) (((l.getD w (g, g)).fst, (l.getD w (g, g)).snd))) (rat (g, o))) ((0 : Int))) (True)) (qs q)) (q.length + x)) (inR .i64 o)) ((1 : Int))) (q.length + 2)) ((0 : Nat))) ((1 : Nat))) (by kernel_rfl) ?_
   simp only [zz]
   have hq := qs_length q
   have e0 : rat (0, 1) = 0 := by rw [rat_int]; try rfl
   have e3 : (qs q).getD 0 (0, 0) = qp (q.getD 0 0) := qs_getD (by omega)
   have e5 : fracR ((q.length : Int) - 0) q.length = qp (Rat.divInt ((q.length - 0 : Nat) : Int) q.length) := by
     rw [show ((q.length : Int) - 0) = ((q.length - 0 : Nat) : Int) by omega]; exact fracR_div (by omega)
   have m2 := rz_mul h hl (i := 0) (k := q.length - 0) (by omega) (by omega)
   have a1 : addOk 0 (q.getD 0 0 * Rat.divInt ((q.length - 0 : Nat) : Int) q.length) := zero_addOk m2.2 (by omega) (by omega)
   refine ⟨fun _ => ⟨fun hf => by omega, fun _ => ⟨fun _ => ?_, fun hf => by omega⟩⟩, fun hf => by omega⟩
   simp only [e3, e5, e0, qp_fst, qp_snd, rat_num_den, Rat.zero_add]
   refine ⟨by unfold idxPre; omega, by simp only [inR]; omega, ⟨by unfold small; omega, by unfold small; omega⟩, ⟨good_nd _, good_nd _, m2.1⟩, ⟨good_int 0, good_nd _, a1⟩, by unfold sumPre; simp, by simp only [inR]; omega, 1, ⟨by omega, by omega⟩, rfl, ?_⟩
   rw [rzs_step]
   simp [rzs, qs, rz, show 0 < q.length by omega, Rat.zero_add]; try rfl
 · refine of_eq (q := (fun (t : Int) => (fun (p : Int) => (fun (o : Prop) => (fun (n : List (Int × Int)) => (fun (m : List (Int × Int)) => (fun (v : Int × Int) => (fun (l : Nat) => (fun (k : Rat) => (fun (e : Int) => (fun (u : Prop) => (fun (g : Int × Int) => (fun (x : Rat) => (fun (c : Int) => (fun (z : Prop) => (fun (s : Int × Int) => (fun (r : Int × Int) => (fun (h : Prop) => (fun (f : Prop) => (fun (b : Rat) => (fun (A : Int × Int) => (fun (j : Rat) => (fun (a : Int × Int) => (fun (d : Int × Int) => (fun (w : Int × Int) => o /\ o /\ o /\ (e <= c -> o /\ o /\ o /\ o /\ o /\ (p < e -> o /\ o /\ o /\ inR .i64 (e - t) /\ idxPre (e - t) m.length /\ o /\ o /\ o /\ (small e /\ small c) /\ (good (g.fst, g.snd) /\ good r /\ mulOk x (rat r)) /\ (good (p, t) /\ good a /\ addOk k (rat a)) /\ o /\ o /\ o /\ o /\ (e < c -> o /\ o /\ o /\ idxPre e m.length /\ o /\ o /\ o /\ inR .i64 (c - e) /\ o /\ z /\ h /\ (good d /\ good A /\ addOk (rat d) j) /\ o /\ o /\ o /\ o /\ sumPre n.length [w].length (nat_lit 16) /\ o /\ o /\ u /\ o /\ (f ∨ ∃ (y : Nat), (((1 : Nat) <= y /\ y <= l) /\ l - y < l - i) /\ (m = m /\ c = c /\ o /\ e + t = (y : Int) /\ o) /\ n ++ [w] = qs (rzs q y) /\ o)) /\ (¬e < c -> o /\ o /\ o /\ sumPre n.length [d].length (nat_lit 16) /\ o /\ o /\ u /\ o /\ (f ∨ ∃ (y : Nat), (((1 : Nat) <= y /\ y <= l) /\ l - y < l - i) /\ (m = m /\ c = c /\ o /\ e + t = (y : Int) /\ o) /\ n ++ [d] = qs (rzs q y) /\ o))) /\ (¬p < e -> o /\ o /\ o /\ (e < c -> o /\ o /\ o /\ idxPre e m.length /\ o /\ o /\ o /\ inR .i64 (c - e) /\ o /\ z /\ h /\ (good (p, t) /\ good A /\ addOk k j) /\ o /\ o /\ o /\ o /\ sumPre n.length [((k + j).num, (↑(k + j).den : Int))].length (nat_lit 16) /\ o /\ o /\ u /\ o /\ (f ∨ ∃ (y : Nat), (((1 : Nat) <= y /\ y <= l) /\ l - y < l - i) /\ (m = m /\ c = c /\ o /\ e + t = (y : Int) /\ o) /\ n ++ [((k + j).num, (↑(k + j).den : Int))] = qs (rzs q y) /\ o)) /\ (¬e < c -> o /\ o /\ o /\ sumPre n.length [(p, t)].length (nat_lit 16) /\ o /\ o /\ u /\ o /\ (f ∨ ∃ (y : Nat), (((1 : Nat) <= y /\ y <= l) /\ l - y < l - i) /\ (m = m /\ c = c /\ o /\ e + t = (y : Int) /\ o) /\ n ++ [(p, t)] = qs (rzs q y) /\ o)))) /\ (¬e <= c -> ∃ (y : Unit), o /\ (o /\ o) /\ n = qs (raise q) /\ o)) (((rat d + j).num, (↑(rat d + j).den : Int)))) (((k + rat a).num, (↑(k + rat a).den : Int)))) (((x * rat r).num, (↑(x * rat r).den : Int)))) (rat A)) ((b.num, (b.den : Int)))) (rat v * rat s)) (∃ (y : Unit), (o /\ q.length + 2 < l - i) /\ (m = m /\ c = c /\ False /\ e + t = p /\ o) /\ o)) (good v /\ good s /\ mulOk (rat v) (rat s))) (((fracR e c).fst, (fracR e c).snd))) (((fracR (c - e) c).fst, (fracR (c - e) c).snd))) (small (c - e) /\ small c)) ((q.length : Int))) (rat (g.fst, g.snd))) (m.getD (e - t).toNat (p, p))) (inR .i64 (e + t))) ((i : Int))) (rat (p, t))) (q.length + 1)) (((m.getD i (p, p)).fst, (m.getD i (p, p)).snd))) (qs q)) (qs (rzs q i))) (True)) ((0 : Int))) ((1 : Int))) (by kernel_rfl) ?_
   simp only [zz]
   obtain ⟨hi1, hi2⟩ := hi
   have hq := qs_length q
   have hz := rzs_length q i
   have e0 : rat (0, 1) = 0 := by rw [rat_int]; try rfl
   refine ⟨fun h3 => ⟨fun _ => ?_, fun hf => by omega⟩, fun h3 => by rw [raise, show i = q.length + 1 by omega]⟩
   have e1 : ((i : Int) - 1).toNat = i - 1 := by omega
   have e2 : (qs q).getD (i - 1) (0, 0) = qp (q.getD (i - 1) 0) := qs_getD (by omega)
   have e4 : fracR (i : Int) q.length = qp (Rat.divInt i q.length) := fracR_div (by omega)
   simp only [e1, e2, e4, e0, show (((0 : Int)) : Rat) = 0 from rfl, qp_fst, qp_snd, rat_num_den, Rat.zero_add]
   have m1 := rz_mul h hl (i := i - 1) (k := i) (by omega) (by omega)
   have z1 := zero_addOk m1.2 (by omega) (by omega)
   refine ⟨by simp only [inR]; omega, by unfold idxPre; omega, ⟨by unfold small; omega, by unfold small; omega⟩, ⟨good_nd _, good_nd _, m1.1⟩, ⟨good_int 0, good_nd _, z1⟩, fun h4 => ?_, fun h4 => ?_⟩
   · have e3 : (qs q).getD i (0, 0) = qp (q.getD i 0) := qs_getD (by omega)
     have e5 : fracR ((q.length : Int) - i) q.length = qp (Rat.divInt ((q.length - i : Nat) : Int) q.length) := by
       rw [show ((q.length : Int) - i) = ((q.length - i : Nat) : Int) by omega]; exact fracR_div (by omega)
     simp only [e3, e5, qp_fst, qp_snd, rat_num_den, Rat.zero_add]
     have m2 := rz_mul h hl (i := i) (k := q.length - i) (by omega) (by omega)
     have a1 := rz_add h hl (i := i - 1) (j := i) (k := i) (m := q.length - i) (by omega) (by omega) (by omega) (by omega)
     refine ⟨by unfold idxPre; omega, by simp only [inR]; omega, ⟨by unfold small; omega, by unfold small; omega⟩, ⟨good_nd _, good_nd _, m2.1⟩, ⟨good_nd _, good_nd _, a1⟩, by unfold sumPre; rw [qs_length, hz]; simp; omega, by simp only [inR]; omega, i + 1, ⟨by omega, by omega⟩, rfl, ?_⟩
     rw [rzs_step, rz_mid (by omega) (by omega)]; simp [qs]; try rfl
   · refine ⟨by unfold sumPre; rw [qs_length, hz]; simp; omega, by simp only [inR]; omega, i + 1, ⟨by omega, by omega⟩, rfl, ?_⟩
     rw [rzs_step, show rz q i = q.getD (i - 1) 0 * Rat.divInt i q.length by simp [rz, h4, show ¬ i < q.length by omega, show 0 < i by omega, Rat.add_zero]]
     simp [qs]; try rfl
theorem call39 (q : List Rat) (h : frs 240 240000000 q) (h1 : 1 <= q.length) (hl : q.length <= 6) : GCall Tryd.prog gl 39 false [.sl Q2 (qs q)] [] [.sl Q2 (qs (raise q))] [] := by
 refine gcall_of (X := X [e46,e86,e87]) (X_ok [e46,e86,e87]) (f := 39) (fn := Tryd.f39) (c := bodyOf Tryd.f39) (by kernel_rfl) (by kernel_rfl) (view := true) (rvs := [.tmp 2]) (by kernel_rfl) (H := (H39 q)) 80 (by kernel_rfl) ?_
 have hL := loop39 q h h1 hl
 refine of_eq (q := (fun (c : Prop) => (fun (b : Cy) => (fun (a : Prop) => c /\ c /\ c /\ c /\ c /\ c /\ LoopOK b L39_0 { J := chks (0 : Nat) [(0 : Nat), (3 : Nat), (4 : Nat), (5 : Nat)] (fm39 q), exits := List.map (fun (x : List Nat × Ex) => x.snd) (ex39 q) } (RetR b false true [ResultVar.tmp (2 : Tmp)] [AV.sl Q2 (qs (raise q))] []) /\ ((∃ (y : Unit), c /\ (qs q = qs q /\ a /\ c /\ (0 : Int) = 0 /\ c) /\ c) ∨ ∃ (y : Nat), ((1 : Nat) <= y /\ y <= q.length + 1) /\ (qs q = qs q /\ a /\ False /\ (0 : Int) = (y : Int) /\ c) /\ False) /\ (∀ (y : Unit), c -> c /\ c /\ c /\ (qs (raise q) = qs (raise q) /\ c) /\ c) /\ c) ((↑(qs q).length : Int) = (q.length : Int))) (X [e46, e86, e87])) (True)) (by kernel_rfl) ?_
 simp only [zz]
 have hq := qs_length q
 exact ⟨hL _, by rw [hq], fun _ _ => trivial⟩
def e39 : Entry Tryd.prog gl := entry1 39 ⟨Tryd.f39, by kernel_rfl, by kernel_rfl, by kernel_rfl⟩ SQ (fun l => given l 6) false (fun l => [.sl Q2 (qs (raise (rats l)))]) (fun _ => []) (fun l h => by have hg := given_facts h; have := call39 (rats l) hg.2 (by rw [rats_length]; exact h.2.1) (by rw [rats_length]; have := h.2.2; omega); rwa [hg.1] at this)
end Go.Am.Bern

/- Bern: functions of the laws. -/
namespace Go.Am.Bern
open Go Go.Am Go.Proofs
noncomputable def L49_0 : Code := lp (bodyOf Tryd.f49) 0
def inv49 (a b : List Int) (k : Nat) : Prop := k <= a.length /\ a.take k = b.take k
def st49 (a b : List Int) (k : Nat) : St := ⟨.sl I64 a :: .sl I64 b :: .dead :: .dead :: .dead :: .int .i64 k :: dd 20, []⟩
def ex49 (a b : List Int) : List (List Nat × Ex) := [([], ⟨0, Unit, fun _ => a = b, fun _ => ⟨dd 26, []⟩⟩)]
noncomputable def H49 (a b : List Int) : Nat -> Option Hint := fun _ => some ⟨chk 0 [0, 1, 5] (inv49 a b) (st49 a b), (ex49 a b).map (·.2)⟩
theorem loop49 (a b : List Int) (hl : a.length < 1000000000000000) (he : a.length = b.length) : LoopOK (X []) L49_0 ⟨chk 0 [0, 1, 5] (inv49 a b) (st49 a b), (ex49 a b).map (·.2)⟩ (RetR (X []) true false [.tmp 4] [.bool (decide (a = b))] []) := by
 refine loop_ok (X_ok []) (H := fun _ _ => none) [0, 1, 5] (inv49 a b) (st49 a b) (fun k => a.length - k) (ex49 a b) 80 fun (k : Nat) hk => ?_
 refine of_eq (q := (fun (e : Prop) => (fun (d : Prop) => (fun (c : Int) => d /\ d /\ d /\ d /\ (c < (a.length : Int) -> d /\ d /\ idxPre c a.length /\ d /\ d /\ d /\ idxPre c b.length /\ d /\ d /\ (e -> d /\ d /\ (false = decide (a = b) /\ d) /\ d) /\ (¬e -> d /\ inR .i64 (c + 1) /\ d /\ ∃ (y : Nat), (inv49 a b y /\ a.length - y < a.length - k) /\ (a = a /\ b = b /\ c + 1 = (y : Int) /\ d) /\ d)) /\ (¬c < (a.length : Int) -> ∃ (y : Unit), a = b /\ d /\ d)) ((k : Int))) (True)) (¬a.getD k (0 : Int) = b.getD k (0 : Int))) (by kernel_rfl) ?_
 simp only [zz]
 obtain ⟨h1, h2⟩ := hk
 refine ⟨fun h => ?_, fun h => ?_⟩
 · refine ⟨idx_nat (by omega), idx_nat (by omega), fun h3 => dff fun h4 => h3 (by rw [h4]), fun h3 => ⟨by simp only [inR]; omega, k + 1, ⟨⟨by omega, ?_⟩, by omega⟩, rfl⟩⟩
   rw [take_getD (d := 0) (by omega), take_getD (d := 0) (by omega), h2, Classical.not_not.mp h3]
 · rw [List.take_of_length_le (by omega), List.take_of_length_le (by omega)] at h2; exact h2
theorem call49 (a b : List Int) (hl : a.length < 1000000000000000) : GCall Tryd.prog gl 49 true [.sl I64 a, .sl I64 b] [] [.bool (decide (a = b))] [] := by
 refine gcall_of (X := X []) (X_ok []) (f := 49) (fn := Tryd.f49) (c := bodyOf Tryd.f49) (by kernel_rfl) (by kernel_rfl) (view := false) (rvs := [.tmp 4]) (by kernel_rfl) (H := (H49 a b)) 80 (by kernel_rfl) ?_
 have hL := loop49 a b hl
 refine of_eq (q := (fun (e : Prop) => (fun (d : Bool) => (fun (c : Prop) => c /\ c /\ c /\ c /\ c /\ c /\ (e -> c /\ c /\ (false = d /\ c) /\ c) /\ (¬e -> c /\ LoopOK (X []) L49_0 { J := chk (0 : Nat) [(0 : Nat), (1 : Nat), (5 : Nat)] (inv49 a b) (st49 a b), exits := List.map (fun (x : List Nat × Ex) => x.snd) (ex49 a b) } (RetR (X []) true false [ResultVar.tmp (4 : Tmp)] [AV.bool d] []) /\ (∃ (y : Nat), inv49 a b y /\ (a = a /\ b = b /\ (0 : Int) = (y : Int) /\ c) /\ c) /\ (∀ (y : Unit), a = b -> c /\ c /\ (true = d /\ c) /\ c) /\ c)) (True)) (decide (a = b))) (¬(a.length : Int) = (b.length : Int))) (by kernel_rfl) ?_
 simp only [zz]
 exact ⟨fun h => dff fun e => h (by rw [e]), fun h => ⟨hL (by omega), ⟨0, ⟨by omega, by simp⟩, rfl⟩, fun _ h => dtt h⟩⟩
theorem call48 (l : List Int) (m : Int) (h : l.length < 1000000000000000 /\ 0 <= m /\ m < 1000000) : GCall Tryd.prog gl 48 false [.sl I64 l, .int .i64 m] [] [.sl I64 (l.take m.toNat)] [] := by
 refine gcall_of (X := X []) (X_ok []) (f := 48) (fn := Tryd.f48) (c := bodyOf Tryd.f48) (by kernel_rfl) (by kernel_rfl) (view := true) (rvs := [.tmp 4]) (by kernel_rfl) (H := fun _ => none) 80 (by kernel_rfl) ?_
 refine of_eq (q := (fun (b : Prop) => (fun (a : Option Int) => b /\ b /\ b /\ b /\ b /\ b /\ b /\ b /\ slPre l.length l.length none a none /\ sumPre (0 : Nat) (cutL l none a).length (nat_lit 8) /\ b /\ b /\ (cutL l none a = List.take m.toNat l /\ b) /\ b) (some (minI (l.length : Int) m))) (True)) (by kernel_rfl) ?_
 simp only [zz]
 have e : (minI l.length m).toNat = min l.length m.toNat := by unfold minI; split <;> omega
 have e0 : 0 <= minI l.length m /\ minI l.length m <= l.length := by unfold minI; split <;> omega
 have ec : cutL l none (some (minI l.length m)) = l.take m.toNat := by
   unfold cutL
   simp only [bLo, bHi, Nat.sub_zero, List.drop_zero]
   rw [e]; simp [List.take_eq_take_iff, Nat.min_comm]
 rw [ec]
 refine ⟨by simp only [slPre, bLo, bHi]; omega, by unfold sumPre; simp; omega, rfl⟩
def e48 : Entry Tryd.prog gl := entry2 48 ⟨Tryd.f48, by kernel_rfl, by kernel_rfl, by kernel_rfl⟩ SI I64 (fun l (m : Int) => l.length < 1000000000000000 /\ 0 <= m /\ m < 1000000) false (fun l (m : Int) => [.sl I64 (l.take m.toNat)]) (fun _ _ => []) (call48)
def u64 (x : Int) : Int := modU .u64 x
theorem u64_nn (x : Int) : 0 <= u64 x /\ u64 x < 18446744073709551616 := by unfold u64; simp only [modU]; omega
def tm (x : Int) : Int := (u64 x).tmod 201 - 100
theorem tm_range (x : Int) : -100 <= tm x /\ tm x <= 100 := by
 have := u64_nn x
 unfold tm; rw [Int.tmod_eq_emod_of_nonneg this.1]; omega
noncomputable def L12_0 : Code := lp (bodyOf Tryd.f12) 0
def tmL (l : List Int) : List Int := if l = [] then [1] else (l.take 7).map tm
def st12 (l : List Int) (k : Nat) : St := ⟨.sl I64 l :: .dead :: .dead :: .own 0 0 :: .int .i64 k :: dd 29, [.sc 0 3 I64 ((l.take k).map tm)]⟩
def ex12 (l : List Int) : List (List Nat × Ex) := [([3], ⟨0, Unit, fun _ => True, fun _ => ⟨.dead :: .dead :: .dead :: .own 0 0 :: dd 30, [.sc 0 3 I64 ((l.take 7).map tm)]⟩⟩)]
def inv12 (l : List Int) (k : Nat) : Prop := k <= l.length /\ k <= 7
noncomputable def H12 (l : List Int) : Nat -> Option Hint := fun _ => some ⟨chk 0 [0, 3, 4] (inv12 l) (st12 l), (ex12 l).map (·.2)⟩
def hs12 : Nat -> Bool := fun t => Nat.beq t 21
theorem loop12 (l : List Int) (hl : l.length < 1000000000000000) (R : Exit -> St -> Prop) : LoopOK (Xw [] hs12) L12_0 ⟨chk 0 [0, 3, 4] (inv12 l) (st12 l), (ex12 l).map (·.2)⟩ R := by
 refine loop_ok (Xw_ok [] hs12) (H := fun _ _ => none) [0, 3, 4] (inv12 l) (st12 l) (fun k => l.length - k) (ex12 l) 80 fun (k : Nat) hk => ?_
 refine of_eq (q := (fun (e : Prop) => (fun (d : List Int) => (fun (c : Int) => (fun (b : Prop) => (fun (a : Int) => (fun (f : Int) => e /\ e /\ e /\ e /\ e /\ (c < (l.length : Int) -> e /\ e /\ e /\ (c < 7 -> e /\ e /\ e /\ idxPre c l.length /\ e /\ e /\ ¬(201 : Int) = 0 /\ inR .i64 a /\ inR .i64 f /\ e /\ sumPre d.length [f].length (nat_lit 8) /\ e /\ e /\ inR .i64 (c + 1) /\ e /\ ∃ (y : Nat), (inv12 l y /\ l.length - y < l.length - k) /\ (l = l /\ e /\ c + 1 = (y : Int) /\ e) /\ d ++ [f] = List.map tm (List.take y l) /\ e) /\ (¬c < 7 -> b)) /\ (¬c < (l.length : Int) -> e /\ b)) (a - 100)) ((modU .u64 (l.getD k (0 : Int))).tmod (201 : Int))) (∃ (y : Unit), e /\ (e /\ e) /\ d = List.map tm (List.take (7 : Nat) l) /\ e)) ((k : Int))) (List.map tm (List.take k l))) (True)) (by kernel_rfl) ?_
 simp only [zz]
 obtain ⟨h1, h2⟩ := hk
 refine ⟨fun h => ⟨fun h3 => ?_, fun h3 => by rw [show k = 7 by omega]⟩, fun h => ?_⟩
 · have hr := tm_range (l.getD k 0)
   have hu := u64_nn (l.getD k 0)
   have e : (modU IntKind.u64 (l.getD k 0)).tmod 201 = tm (l.getD k 0) + 100 := by unfold tm u64; omega
   rw [e]
   refine ⟨idx_nat (by omega), by omega, by simp only [inR]; omega, by simp only [inR]; omega, by unfold sumPre; simp; omega, by simp only [inR]; omega, k + 1, ⟨⟨by omega, by omega⟩, by omega⟩, rfl, ?_⟩
   rw [take_getD (d := 0) (by omega), List.map_append, show tm (l.getD k 0) + 100 - 100 = tm (l.getD k 0) by omega]
   rfl
 · rw [List.take_of_length_le (by omega), List.take_of_length_le (by omega)]
theorem tmL_poly (l : List Int) : isPoly (tmL l) := by
 unfold tmL
 split
 · exact ⟨by decide, by decide, fun x hx => by simp at hx; subst hx; omega⟩
 · rename_i h
   have : l.length ≠ 0 := fun e => h (List.length_eq_zero_iff.mp e)
   refine ⟨by simp; omega, by simp; omega, fun x hx => ?_⟩
   obtain ⟨y, _, rfl⟩ := List.mem_map.mp hx
   exact tm_range y
def den6 (x : Int × Int) : Int := ([1, 2, 3, 5, 48, 240] : List Int).getD ((u64 x.2).tmod 6).toNat 0
def crn (x : Int × Int) : Int × Int := fracR ((u64 x.1).tmod 2001 - 1000) (den6 x)
theorem den6_range0 : ∀ n : Fin 6, 1 <= ([1, 2, 3, 5, 48, 240] : List Int).getD n.val 0 /\ ([1, 2, 3, 5, 48, 240] : List Int).getD n.val 0 <= 240 /\ (240 : Int).tmod (([1, 2, 3, 5, 48, 240] : List Int).getD n.val 0) = 0 := by decide
theorem den6_range (x : Int × Int) : 1 <= den6 x /\ den6 x <= 240 /\ (240 : Int).tmod (den6 x) = 0 := by
 have hv := u64_nn x.2
 have e5 : (u64 x.2).tmod 6 = u64 x.2 % 6 := Int.tmod_eq_emod_of_nonneg hv.1
 exact den6_range0 ⟨((u64 x.2).tmod 6).toNat, by omega⟩
theorem crn_facts (x : Int × Int) : 1 <= den6 x /\ den6 x <= 240 := ⟨(den6_range x).1, (den6_range x).2.1⟩
def crnL (l : List (Int × Int)) (m : Nat) : List (Int × Int) := if l = [] ∨ m = 0 then [(-1, 2)] else (l.take m).map crn
noncomputable def L42_0 : Code := lp (bodyOf Tryd.f42) 0
noncomputable abbrev X42 : Cy := Xw [e46] (fun t => Nat.beq t 25 || Nat.beq t 34 || Nat.beq t 26)
def sz42 (l : List (Int × Int)) (m : Nat) (_ : Unit) : St := ⟨.sl Q2 l :: .int .i64 m :: .dead :: .dead :: .dead :: .vv (.slice none 0 0) :: .int .i64 0 :: dd 43, []⟩
def st42 (l : List (Int × Int)) (m : Nat) (k : Nat) : St := ⟨.sl Q2 l :: .int .i64 m :: .dead :: .dead :: .dead :: .own 0 0 :: .int .i64 k :: dd 43, [.sc 0 48 Q2 ((l.take k).map crn)]⟩
def fm42 (l : List (Int × Int)) (m : Nat) : List Fam := [⟨Unit, fun _ => True, sz42 l m, fun _ => l.length + 1, fun _ _ => none⟩, ⟨Nat, fun k => 1 <= k /\ k <= l.length /\ k <= m, st42 l m, fun k => l.length - k, fun _ _ => none⟩]
def ex42 (l : List (Int × Int)) (m : Nat) : List (List Nat × Ex) := [([5], ⟨0, Unit, fun _ => l = [] ∨ m = 0, fun _ => ⟨.dead :: .dead :: .dead :: .dead :: .dead :: .vv (.slice none 0 0) :: dd 44, []⟩⟩), ([5], ⟨0, Unit, fun _ => ¬ (l = [] ∨ m = 0), fun _ => ⟨.dead :: .dead :: .dead :: .dead :: .dead :: .own 0 0 :: dd 44, [.sc 0 48 Q2 ((l.take m).map crn)]⟩⟩)]
noncomputable def H42 (l : List (Int × Int)) (m : Nat) : Nat -> Option Hint := fun _ => some ⟨chks 0 [0, 1, 5, 6] (fm42 l m), (ex42 l m).map (·.2)⟩
theorem loop42 (l : List (Int × Int)) (m : Nat) (hl : l.length < 1000000000000000) (hm : m < 1000000) (R : Exit -> St -> Prop) : LoopOK X42 L42_0 ⟨chks 0 [0, 1, 5, 6] (fm42 l m), (ex42 l m).map (·.2)⟩ R := by
 refine loop_fams (Xw_ok _ _) [0, 1, 5, 6] (fm42 l m) (ex42 l m) 80 ⟨fun _ _ => ?_, fun (k : Nat) hk => ?_, trivial⟩
 · refine of_eq (q := (fun (n : Int) => (fun (k : Nat) => (fun (i : Nat) => (fun (h : Int) => (fun (f : Prop) => (fun (e : Int) => (fun (g : Int) => (fun (d : Prop) => (fun (c : Int) => (fun (b : Int) => (fun (j : Int) => (fun (a : Int × Int) => f /\ f /\ f /\ f /\ f /\ (e < (l.length : Int) -> f /\ f /\ f /\ f /\ (e < h -> f /\ f /\ f /\ idxPre e l.length /\ idxPre n (2 : Nat) /\ f /\ f /\ ¬(6 : Int) = e /\ idxPre g (6 : Nat) /\ f /\ f /\ f /\ f /\ idxPre e l.length /\ idxPre e (2 : Nat) /\ f /\ f /\ ¬(2001 : Int) = e /\ inR .i64 b /\ inR .i64 j /\ f /\ ((small j /\ small c) /\ f) /\ f /\ sumPre k [(a.fst, a.snd)].length (nat_lit 16) /\ f /\ f /\ inR .i64 n /\ f /\ ((∃ (y : Unit), (f /\ i < i) /\ (l = l /\ h = h /\ False /\ n = e /\ f) /\ f) ∨ ∃ (y : Nat), (((1 : Nat) <= y /\ y <= l.length /\ y <= m) /\ l.length - y < i) /\ (l = l /\ h = h /\ f /\ n = (y : Int) /\ f) /\ [(a.fst, a.snd)] = List.map crn (List.take y l) /\ f)) /\ (¬e < h -> d)) /\ (¬e < (l.length : Int) -> f /\ d)) (fracR j c)) (b - 1000)) ((modU .u64 (l.getD k (e, e)).fst).tmod (2001 : Int))) ([n, (2 : Int), (3 : Int), (5 : Int), (48 : Int), (240 : Int)].getD g.toNat e)) ((∃ (y : Unit), (l = [] ∨ m = k) /\ (f /\ f) /\ f) ∨ ∃ (y : Unit), ¬(l = [] ∨ m = k) /\ (False /\ f) /\ False)) ((modU .u64 (l.getD k (e, e)).snd).tmod (6 : Int))) ((0 : Int))) (True)) ((m : Int))) (l.length + 1)) ((0 : Nat))) ((1 : Int))) (by kernel_rfl) ?_
   simp only [zz]
   refine ⟨fun h => ⟨fun h2 => ?_, fun h2 => by omega⟩, fun h => by left; exact List.length_eq_zero_iff.mp (by omega)⟩
   obtain ⟨c1, c2⟩ := crn_facts (l.getD 0 (0, 0))
   have hu := u64_nn (l.getD 0 (0, 0)).1
   have hv := u64_nn (l.getD 0 (0, 0)).2
   have e1 : modU .u64 (l.getD 0 (0, 0)).1 = u64 (l.getD 0 (0, 0)).1 := rfl
   have e2 : modU .u64 (l.getD 0 (0, 0)).2 = u64 (l.getD 0 (0, 0)).2 := rfl
   have e3 : ([1, 2, 3, 5, 48, 240] : List Int).getD ((u64 (l.getD 0 (0, 0)).2).tmod 6).toNat 0 = den6 (l.getD 0 (0, 0)) := rfl
   have e4 : (u64 (l.getD 0 (0, 0)).1).tmod 2001 = u64 (l.getD 0 (0, 0)).1 % 2001 := Int.tmod_eq_emod_of_nonneg hu.1
   have e5 : (u64 (l.getD 0 (0, 0)).2).tmod 6 = u64 (l.getD 0 (0, 0)).2 % 6 := Int.tmod_eq_emod_of_nonneg hv.1
   rw [e1, e2, e3]
   refine ⟨by unfold idxPre; omega, i12, by omega, by rw [e5]; unfold idxPre; omega, by unfold idxPre; omega, i02, by omega, by rw [e4]; simp only [inR]; omega, by rw [e4]; simp only [inR]; omega, ⟨by rw [e4]; unfold small; omega, by unfold small; omega⟩, by unfold sumPre; simp, by simp only [inR]; omega, 1, ⟨⟨by omega, by omega, by omega⟩, by omega⟩, rfl, ?_⟩
   rw [take_getD (d := (0, 0)) (by omega)]; try rfl
 · refine of_eq (q := (fun (p : Int) => (fun (n : Nat) => (fun (j : Int) => (fun (i : Int) => (fun (h : List (Int × Int)) => (fun (g : Int) => (fun (f : Int) => (fun (e : Prop) => (fun (d : Int) => (fun (c : Prop) => (fun (b : Int) => (fun (o : Int) => (fun (a : Int × Int) => e /\ e /\ e /\ e /\ e /\ (f < (l.length : Int) -> e /\ e /\ e /\ e /\ (f < j -> e /\ e /\ e /\ idxPre f l.length /\ idxPre p (2 : Nat) /\ e /\ e /\ ¬(6 : Int) = i /\ idxPre g (6 : Nat) /\ e /\ e /\ e /\ e /\ idxPre f l.length /\ idxPre i (2 : Nat) /\ e /\ e /\ ¬(2001 : Int) = i /\ inR .i64 b /\ inR .i64 o /\ e /\ ((small o /\ small d) /\ e) /\ e /\ sumPre h.length [(a.fst, a.snd)].length (nat_lit 16) /\ e /\ e /\ inR .i64 (f + p) /\ e /\ ((∃ (y : Unit), (e /\ n + 1 < n - k) /\ (l = l /\ j = j /\ False /\ f + p = i /\ e) /\ e) ∨ ∃ (y : Nat), (((1 : Nat) <= y /\ y <= n /\ y <= m) /\ n - y < n - k) /\ (l = l /\ j = j /\ e /\ f + p = (y : Int) /\ e) /\ h ++ [(a.fst, a.snd)] = List.map crn (List.take y l) /\ e)) /\ (¬f < j -> c)) /\ (¬f < (l.length : Int) -> e /\ c)) (fracR o d)) (b - 1000)) ((modU .u64 (l.getD k (i, i)).fst).tmod (2001 : Int))) ((∃ (y : Unit), (l = [] ∨ m = 0) /\ (False /\ e) /\ e) ∨ ∃ (y : Unit), ¬(l = [] ∨ m = 0) /\ (e /\ e) /\ h = List.map crn (List.take m l) /\ e)) ([p, (2 : Int), (3 : Int), (5 : Int), (48 : Int), (240 : Int)].getD g.toNat i)) (True)) ((k : Int))) ((modU .u64 (l.getD k (i, i)).snd).tmod (6 : Int))) (List.map crn (List.take k l))) ((0 : Int))) ((m : Int))) (l.length)) ((1 : Int))) (by kernel_rfl) ?_
   simp only [zz]
   obtain ⟨k1, k2, k3⟩ := hk
   have hne : ¬ (l = [] ∨ m = 0) := fun h => by rcases h with h | h <;> subst h <;> simp at * <;> omega
   refine ⟨fun h => ⟨fun h2 => ?_, fun h2 => ⟨hne, by rw [show k = m by omega]⟩⟩, fun h => ⟨hne, by rw [List.take_of_length_le (by omega), List.take_of_length_le (by omega)]⟩⟩
   obtain ⟨c1, c2⟩ := crn_facts (l.getD k (0, 0))
   have hu := u64_nn (l.getD k (0, 0)).1
   have hv := u64_nn (l.getD k (0, 0)).2
   have e1 : modU .u64 (l.getD k (0, 0)).1 = u64 (l.getD k (0, 0)).1 := rfl
   have e2 : modU .u64 (l.getD k (0, 0)).2 = u64 (l.getD k (0, 0)).2 := rfl
   have e3 : ([1, 2, 3, 5, 48, 240] : List Int).getD ((u64 (l.getD k (0, 0)).2).tmod 6).toNat 0 = den6 (l.getD k (0, 0)) := rfl
   have e4 : (u64 (l.getD k (0, 0)).1).tmod 2001 = u64 (l.getD k (0, 0)).1 % 2001 := Int.tmod_eq_emod_of_nonneg hu.1
   have e5 : (u64 (l.getD k (0, 0)).2).tmod 6 = u64 (l.getD k (0, 0)).2 % 6 := Int.tmod_eq_emod_of_nonneg hv.1
   rw [e1, e2, e3]
   refine ⟨idx_nat (by omega), i12, by omega, by rw [e5]; unfold idxPre; omega, idx_nat (by omega), i02, by omega, by rw [e4]; simp only [inR]; omega, by rw [e4]; simp only [inR]; omega, ⟨by rw [e4]; unfold small; omega, by unfold small; omega⟩, by unfold sumPre; simp; omega, by simp only [inR]; omega, k + 1, ⟨⟨by omega, by omega, by omega⟩, by omega⟩, rfl, ?_⟩
   rw [take_getD (d := (0, 0)) (by omega), List.map_append]; try rfl
theorem call42 (l : List (Int × Int)) (m : Nat) (h : l.length < 1000000000000000 /\ m < 1000000) : GCall Tryd.prog gl 42 false [.sl Q2 l, .int .i64 m] [] [.sl Q2 (crnL l m)] [] := by
 refine gcall_of (X := (X42)) ((Xw_ok _ _)) (f := 42) (fn := Tryd.f42) (c := bodyOf Tryd.f42) (by kernel_rfl) (by kernel_rfl) (view := true) (rvs := [.tmp 4]) (by kernel_rfl) (H := (H42 l m)) 80 (by kernel_rfl) ?_
 have hL := loop42 l m h.1 h.2
 refine of_eq (q := (fun (f : Nat) => (fun (e : List (Int × Int)) => (fun (d : Int × Int) => (fun (c : Int) => (fun (b : Prop) => (fun (a : List (Int × Int)) => b /\ b /\ b /\ LoopOK X42 L42_0 { J := chks f [f, (1 : Nat), (5 : Nat), (6 : Nat)] (fm42 l m), exits := List.map (fun (x : List Nat × Ex) => x.snd) (ex42 l m) } (RetR X42 false true [ResultVar.tmp (4 : Tmp)] [AV.sl Q2 e] []) /\ ((∃ (y : Unit), b /\ (l = l /\ (m : Int) = (m : Int) /\ b /\ c = c /\ b) /\ b) ∨ ∃ (y : Nat), ((1 : Nat) <= y /\ y <= l.length /\ y <= m) /\ (l = l /\ (m : Int) = (m : Int) /\ False /\ c = (y : Int) /\ b) /\ False) /\ (∀ (y : Unit), l = [] ∨ m = f -> b /\ b /\ b /\ (c = c -> b /\ b /\ b /\ sumPre f [d].length (nat_lit 16) /\ b /\ b /\ b /\ b /\ ([d] = e /\ b) /\ b) /\ (¬c = c -> b /\ b /\ b /\ (([] : List (Int × Int)) = e /\ b) /\ b)) /\ (∀ (y : Unit), ¬(l = [] ∨ m = f) -> b /\ b /\ b /\ ((a.length : Int) = c -> b /\ b /\ b /\ sumPre a.length [d].length (nat_lit 16) /\ b /\ b /\ b /\ b /\ (a ++ [d] = e /\ b) /\ b) /\ (¬(a.length : Int) = c -> b /\ b /\ b /\ (a = e /\ b) /\ b)) /\ b) (List.map crn (List.take m l))) (True)) ((0 : Int))) (((-1 : Int), (2 : Int)))) (crnL l m)) ((0 : Nat))) (by kernel_rfl) ?_
 simp only [zz]
 refine ⟨hL _, fun _ h1 => ⟨fun _ => ⟨by unfold sumPre; simp, by rw [crnL, if_pos h1]⟩, fun h2 => absurd trivial h2⟩, fun _ h1 => ⟨fun h2 => ?_, fun h2 => by rw [crnL, if_neg h1]⟩⟩
 exfalso
 have h2 : (List.map crn (List.take m l)).length = 0 := by omega
 rw [List.length_map, List.length_take] at h2
 rcases Nat.lt_or_ge 0 m with h3 | h3
 · exact h1 (.inl (List.length_eq_zero_iff.mp (by omega)))
 · exact h1 (.inr (by omega))
def e42 : Entry Tryd.prog gl := entry2 42 ⟨Tryd.f42, by kernel_rfl, by kernel_rfl, by kernel_rfl⟩ SQ I64 (fun l (m : Int) => l.length < 1000000000000000 /\ 0 <= m /\ m < 1000000) false (fun l (m : Int) => [.sl Q2 (crnL l m.toNat)]) (fun _ _ => []) (fun l (m : Int) h => by have h : l.length < 1000000000000000 /\ 0 <= m /\ m < 1000000 := h; have := call42 l m.toNat ⟨h.1, by omega⟩; rwa [Int.toNat_of_nonneg h.2.1] at this)
noncomputable def L44_0 : Code := lp (bodyOf Tryd.f44) 0
def lowL (l : List (Int × Int)) (k : Nat) : Int × Int := (l.take k).foldl (fun a x => if rat x < rat a then x else a) (l.getD 0 (0, 0))
def highL (l : List (Int × Int)) (k : Nat) : Int × Int := (l.take k).foldl (fun a x => if rat a < rat x then x else a) (l.getD 0 (0, 0))
theorem lowL_step {l : List (Int × Int)} {k : Nat} (h : k < l.length) : lowL l (k + 1) = if rat (l.getD k (0, 0)) < rat (lowL l k) then l.getD k (0, 0) else lowL l k := by
 unfold lowL; rw [take_getD (d := (0, 0)) h, List.foldl_append]; try rfl
theorem highL_step {l : List (Int × Int)} {k : Nat} (h : k < l.length) : highL l (k + 1) = if rat (highL l k) < rat (l.getD k (0, 0)) then l.getD k (0, 0) else highL l k := by
 unfold highL; rw [take_getD (d := (0, 0)) h, List.foldl_append]; try rfl
theorem fold_mem {α : Type} {L : List α} (f : α -> α -> α) (hf : ∀ a x, f a x = a ∨ f a x = x) : ∀ (m : List α) (a : α), (∀ x ∈ m, x ∈ L) -> a ∈ L -> m.foldl f a ∈ L
 | [], a, _, h => h
 | x :: m, a, hm, h => by
   rw [List.foldl_cons]
   refine fold_mem f hf m _ (fun y hy => hm y (by simp [hy])) ?_
   rcases hf a x with e | e <;> rw [e]
   · exact h
   · exact hm x (by simp)
theorem lowL_mem {l : List (Int × Int)} {k : Nat} (h : 0 < l.length) : lowL l k ∈ l :=
 fold_mem _ (fun a x => by split <;> simp) _ _ (fun x hx => List.mem_of_mem_take hx) (getD_mem h)
theorem highL_mem {l : List (Int × Int)} {k : Nat} (h : 0 < l.length) : highL l k ∈ l :=
 fold_mem _ (fun a x => by split <;> simp) _ _ (fun x hx => List.mem_of_mem_take hx) (getD_mem h)
def st44 (l : List (Int × Int)) (k : Nat) : St := ⟨.sl Q2 l :: .dead :: .ptr 0 0 [] :: .ptr 1 0 [] :: .ptr 2 0 [] :: .ptr 3 0 [] :: .int .i64 k :: dd 34, [.bx (ofD Q2 (0, 0)), .bx (ofD Q2 (0, 0)), .bx (ofD Q2 (lowL l k)), .bx (ofD Q2 (highL l k))]⟩
def inv44 (l : List (Int × Int)) (k : Nat) : Prop := 1 <= k /\ k <= l.length
def ex44 (l : List (Int × Int)) : List (List Nat × Ex) := [([2, 3, 4, 5], ⟨0, Unit, fun _ => True, fun _ => ⟨.dead :: .dead :: .ptr 0 0 [] :: .ptr 1 0 [] :: .ptr 2 0 [] :: .ptr 3 0 [] :: dd 35, [.bx (ofD Q2 (0, 0)), .bx (ofD Q2 (0, 0)), .bx (ofD Q2 (lowL l l.length)), .bx (ofD Q2 (highL l l.length))]⟩⟩)]
noncomputable def H44 (l : List (Int × Int)) : Nat -> Option Hint := fun _ => some ⟨chk 0 [0, 2, 3, 4, 5, 6] (inv44 l) (st44 l), (ex44 l).map (·.2)⟩
def lessOk (l : List (Int × Int)) : Prop := ∀ x ∈ l, good x /\ ∀ y ∈ l, addOk (rat x) (-rat y)
noncomputable def X44 : Cy := Xd [e47] (drOf [(1, 10), (9, 1000000)])
theorem loop44 (l : List (Int × Int)) (hl : l.length < 1000000000000000) (ho : lessOk l) (R : Exit -> St -> Prop) : LoopOK X44 L44_0 ⟨chk 0 [0, 2, 3, 4, 5, 6] (inv44 l) (st44 l), (ex44 l).map (·.2)⟩ R := by
 refine loop_ok (Xd_ok _ _) (H := fun _ _ => none) [0, 2, 3, 4, 5, 6] (inv44 l) (st44 l) (fun k => l.length - k) (ex44 l) 80 fun (k : Nat) hk => ?_
 refine of_eq (q := (fun (s : List Int) => (fun (n : Nat) => (fun (g : Int) => (fun (p : Int) => (fun (m : Prop) => (fun (i : Prop) => (fun (f : Prop) => (fun (d : Int × Int) => (fun (t : List Int) => (fun (o : Rat) => (fun (c : Int × Int) => (fun (u : List Int) => (fun (b : Int × Int) => (fun (r : List Int) => (fun (j : Rat) => (fun (h : Prop) => (fun (e : Bool) => (fun (a : List Int) => (fun (q : Prop) => f /\ f /\ f /\ f /\ (g < (l.length : Int) -> f /\ f /\ m /\ f /\ f /\ (good (b.fst, b.snd) /\ good (d.fst, d.snd) /\ addOk j (-o)) /\ (decide (j < o) = true -> f /\ f /\ m /\ f /\ f /\ f /\ f /\ f /\ m /\ f /\ h /\ (e = true -> f /\ f /\ m /\ f /\ f /\ f /\ i /\ f /\ ∃ (y : Nat), (inv44 l y /\ n - y < n - k) /\ (l = l /\ f /\ f /\ f /\ f /\ p = (y : Int) /\ f) /\ q /\ q /\ r = (lowL l y).fst :: (lowL l y).snd :: s /\ r = (highL l y).fst :: (highL l y).snd :: s /\ f) /\ (e = false -> f /\ i /\ f /\ ∃ (y : Nat), (inv44 l y /\ n - y < n - k) /\ (l = l /\ f /\ f /\ f /\ f /\ p = (y : Int) /\ f) /\ q /\ q /\ r = (lowL l y).fst :: (lowL l y).snd :: s /\ u = (highL l y).fst :: (highL l y).snd :: s /\ f)) /\ (decide (j < o) = false -> f /\ f /\ f /\ m /\ f /\ h /\ (e = true -> f /\ f /\ m /\ f /\ f /\ f /\ i /\ f /\ ∃ (y : Nat), (inv44 l y /\ n - y < n - k) /\ (l = l /\ f /\ f /\ f /\ f /\ p = (y : Int) /\ f) /\ q /\ q /\ t = (lowL l y).fst :: (lowL l y).snd :: s /\ r = (highL l y).fst :: (highL l y).snd :: s /\ f) /\ (e = false -> f /\ i /\ f /\ ∃ (y : Nat), (inv44 l y /\ n - y < n - k) /\ (l = l /\ f /\ f /\ f /\ f /\ p = (y : Int) /\ f) /\ q /\ q /\ t = (lowL l y).fst :: (lowL l y).snd :: s /\ u = (highL l y).fst :: (highL l y).snd :: s /\ f))) /\ (¬g < (l.length : Int) -> ∃ (y : Unit), f /\ (f /\ f /\ f /\ f /\ f) /\ q /\ q /\ t = (lowL l n).fst :: (lowL l n).snd :: s /\ u = (highL l n).fst :: (highL l n).snd :: s /\ f)) (a = a)) ((0 : Int) :: (0 : Int) :: s)) (decide (rat (c.fst, c.snd) < j))) (good (c.fst, c.snd) /\ good (b.fst, b.snd) /\ addOk (rat (c.fst, c.snd)) (-j))) (rat (b.fst, b.snd))) (b.fst :: b.snd :: s)) (l.getD k (0, 0))) (c.fst :: c.snd :: s)) (highL l k)) (rat (d.fst, d.snd))) (d.fst :: d.snd :: s)) (lowL l k)) (True)) (inR .i64 p)) (idxPre g l.length)) (g + 1)) ((k : Int))) (l.length)) ([])) (by kernel_rfl) ?_
 simp only [zz]
 obtain ⟨h1, h2⟩ := hk
 refine ⟨fun h => ?_, fun h => by rw [show k = l.length by omega]; exact ⟨rfl, rfl⟩⟩
 have hk : k < l.length := by omega
 have hx : l.getD k (0, 0) ∈ l := getD_mem hk
 have ha := lowL_mem (l := l) (k := k) (by omega)
 have hb := highL_mem (l := l) (k := k) (by omega)
 have hc := lowL_step hk
 have hd := highL_step hk
 have hf := ho _ hx
 generalize l.getD k (0, 0) = x at *
 have ik : idxPre (k : Int) l.length := idx_nat hk
 have ir : inR .i64 ((k : Int) + 1) := by simp only [inR]; omega
 have iv : inv44 l (k + 1) /\ l.length - (k + 1) < l.length - k := ⟨⟨by omega, by omega⟩, by omega⟩
 refine ⟨ik, ⟨hf.1, (ho _ ha).1, hf.2 _ ha⟩, fun g => ?_, fun g => ?_⟩
 · have g : rat x < rat (lowL l k) := of_decide_eq_true g
   rw [if_pos g] at hc
   refine ⟨ik, ik, ⟨(ho _ hb).1, hf.1, (ho _ hb).2 _ hx⟩, fun g2 => ?_, fun g2 => ?_⟩
   · have g2 : rat (highL l k) < rat x := of_decide_eq_true g2
     rw [if_pos g2] at hd
     exact ⟨ik, ir, k + 1, iv, rfl, by rw [hc], by rw [hd]⟩
   · have g2 : ¬ rat (highL l k) < rat x := of_decide_eq_false g2
     rw [if_neg g2] at hd
     exact ⟨ir, k + 1, iv, rfl, by rw [hc], by rw [hd]⟩
 · have g : ¬ rat x < rat (lowL l k) := of_decide_eq_false g
   rw [if_neg g] at hc
   refine ⟨ik, ⟨(ho _ hb).1, hf.1, (ho _ hb).2 _ hx⟩, fun g2 => ?_, fun g2 => ?_⟩
   · have g2 : rat (highL l k) < rat x := of_decide_eq_true g2
     rw [if_pos g2] at hd
     exact ⟨ik, ir, k + 1, iv, rfl, by rw [hc], by rw [hd]⟩
   · have g2 : ¬ rat (highL l k) < rat x := of_decide_eq_false g2
     rw [if_neg g2] at hd
     exact ⟨ir, k + 1, iv, rfl, by rw [hc], by rw [hd]⟩
/- call44 (extremes) lacks: its region 1 is drawn, and in one mode a load comes after a store. -/
end Go.Am.Bern

/- Bern: pieces that cover a piece, as they grow (parted). -/
namespace Go.Am.Bern
open Go Go.Am Go.Proofs
abbrev PQ := Int × Int
section
variable (gd : List PQ -> Bool) (p : List Int)
/-- Is there a cover of piece (d, k), n levels being left? -/
def grB : Nat -> Nat -> Nat -> Bool
 | 0, d, k => gd (qc p d k)
 | n + 1, d, k => gd (qc p d k) || (grB n (d + 1) (2 * k) && grB n (d + 1) (2 * k + 1))
/-- The pieces that are added. -/
def grL : Nat -> Nat -> Nat -> List PQ
 | 0, d, k => if gd (qc p d k) then [((d : Int), (k : Int))] else []
 | n + 1, d, k => if gd (qc p d k) then [((d : Int), (k : Int))] else
     if grB gd p n (d + 1) (2 * k) then grL n (d + 1) (2 * k) ++ grL n (d + 1) (2 * k + 1) else grL n (d + 1) (2 * k)
/-- The corners that are known then. -/
def grM : Nat -> Nat -> Nat -> Memo -> Memo
 | 0, d, k, m => cm p d k m
 | n + 1, d, k, m => if gd (qc p d k) then cm p d k m else
     if grB gd p n (d + 1) (2 * k) then grM n (d + 1) (2 * k + 1) (grM n (d + 1) (2 * k) (cm p d k m)) else grM n (d + 1) (2 * k) (cm p d k m)
theorem grM_ok : ∀ {n d k : Nat} {m : Memo}, memoOk p m -> memoOk p (grM gd p n d k m)
 | 0, d, k, m, h => cm_ok h
 | n + 1, d, k, m, h => by
   unfold grM
   split
   · exact cm_ok h
   · split
     · exact grM_ok (grM_ok (cm_ok h))
     · exact grM_ok (cm_ok h)
theorem grL_ne : ∀ {n d k : Nat}, grB gd p n d k = true -> grL gd p n d k ≠ []
 | 0, d, k, h => by unfold grB at h; unfold grL; rw [if_pos h]; simp
 | n + 1, d, k, h => by
   unfold grB at h
   unfold grL
   split
   · simp
   · rename_i hg
     have h : grB gd p n (d + 1) (2 * k) = true /\ grB gd p n (d + 1) (2 * k + 1) = true := by simpa [hg] using h
     rw [if_pos h.1]
     intro e
     exact grL_ne h.1 (List.append_eq_nil_iff.mp e).1
def hvB (n d k : Nat) : Bool := grB gd p n (d + 1) (2 * k) && grB gd p n (d + 1) (2 * k + 1)
def hvL (n d k : Nat) : List PQ := if grB gd p n (d + 1) (2 * k) then grL gd p n (d + 1) (2 * k) ++ grL gd p n (d + 1) (2 * k + 1) else grL gd p n (d + 1) (2 * k)
def hvM (n d k : Nat) (m : Memo) : Memo := if grB gd p n (d + 1) (2 * k) then grM gd p n (d + 1) (2 * k + 1) (grM gd p n (d + 1) (2 * k) m) else grM gd p n (d + 1) (2 * k) m
end
def rfC : Code -> Option (Array Tmp × Code × Code)
 | .seq a b => (match rfC a with
   | some r => some r
   | none => rfC b)
 | .cond _ a b => (match rfC a with
   | some r => some r
   | none => rfC b)
 | .block _ b => rfC b
 | .loop b => rfC b
 | .scope b => rfC b
 | .rangeFunc _ ps a b => some (ps, a, b)
 | _ => none
noncomputable def rcC (ixs : List Nat) (f : Func) : RcC := match rfC (bodyOf f) with
 | some r => ⟨ixs, f.ntmps, r.1, r.2.1, r.2.2⟩
 | none => ⟨[], 0, #[], .skip, .skip⟩
noncomputable def C91 : RcC := rcC [4, 6] Tryd.f91
def clo91 (g c o r : Nat) : AV := .clo 91 [] [.ptr g 0 [], .ptr c 0 [], .ptr o 0 [], .ptr r 0 []]
def cvB (p : List Int) (mi : Nat) : Ob := .bx (.agg [.sl I64 p, .mp mi])
def pieO (v : Nat) (l : List PQ) : Ob := .sc v 87 FR l
def bq (q : PQ) : Ob := .bx (ofD FR q)
def rc91 (a b : Nat) : AV := .clo 0 [.ptr a 0 [], .ptr b 0 []] []
def unCvB : Ob -> Option (List Int)
 | .bx (.agg [.sl e xs, .mp _]) => castL e I64 xs
 | _ => none
def isNl : Ob -> Bool
 | .bx (.vv _) => true
 | _ => false
def unPie : Ob -> Option (List PQ)
 | .sc _ _ e xs => castL e FR xs
 | _ => none
def yst (b o : Bool) : LoopState := if b && !o then .ready else .done
def yjp (b o : Bool) : Option Code := if b then (if o then some .ret else none) else some (.exit 0)
def jR (b : Bool) : Option Code := if b then some .ret else some (.exit 0)
noncomputable def Xy (l : EL) (yl : List (YEntry Tryd.prog gl)) (ro : Option Nat) (m0 : Nat) (dr : Nat -> Option Nat) : Cy := mkY Tryd.prog tt gl l yl ro m0 dr
theorem Xy_ok (l : EL) (yl : List (YEntry Tryd.prog gl)) (ro : Option Nat) (m0 : Nat) (dr : Nat -> Option Nat) : (Xy l yl ro m0 dr).Ok := mkY_ok tt_ok l yl ro m0 dr
noncomputable def Xb (l : EL) (yl : List (YEntry Tryd.prog gl)) (ro : Option Nat) (m0 : Nat) (bs : List Nat) (dr : Nat -> Option Nat) : Cy := { mkY Tryd.prog tt gl l yl ro m0 dr with bs := bs }
theorem Xb_ok (l : EL) (yl : List (YEntry Tryd.prog gl)) (ro : Option Nat) (m0 : Nat) (bs : List Nat) (dr : Nat -> Option Nat) : (Xb l yl ro m0 bs dr).Ok := (mkY_ok tt_ok l yl ro m0 dr).bump bs
theorem call92 (q : PQ) (_ : True) : GCall Tryd.prog gl 92 true [ofD FR q] [] [.clo 97 [] [.ptr 0 0 []]] [bq q] := by
 refine gcall_of (X := X []) (X_ok []) (f := 92) (fn := Tryd.f92) (c := bodyOf Tryd.f92) (by kernel_rfl) (by kernel_rfl) (view := false) (rvs := [.tmp 2]) (by kernel_rfl) (H := fun _ => none) 80 (by kernel_rfl) ?_
 refine of_eq (q := (fun (a : Prop) => a /\ a /\ a /\ a /\ a /\ ((a /\ a /\ a) /\ a) /\ (q.fst = q.fst /\ q.snd = q.snd /\ a) /\ a) (True)) (by kernel_rfl) ?_
 simp only [zz]
def e92 : Entry Tryd.prog gl := entry1 92 ⟨Tryd.f92, by kernel_rfl, by kernel_rfl, by kernel_rfl⟩ FR (fun _ => True) true (fun _ => [.clo 97 [] [.ptr 0 0 []]]) (fun q => [bq q]) (call92)
def pre91 (n d k : Nat) (p : List Int) (m : Memo) : Prop := isPoly p /\ d + n = 6 /\ k < 2 ^ d /\ memoOk p m
theorem pre_left {n d k : Nat} {p : List Int} {m : Memo} (h : pre91 (n + 1) d k p m) : pre91 n (d + 1) (2 * k) p m := by
 obtain ⟨h1, h2, h3, h4⟩ := h
 exact ⟨h1, by omega, by rw [Nat.pow_succ]; omega, h4⟩
theorem pre_right {n d k : Nat} {p : List Int} {m : Memo} (h : pre91 (n + 1) d k p m) : pre91 n (d + 1) (2 * k + 1) p m := by
 obtain ⟨h1, h2, h3, h4⟩ := h
 exact ⟨h1, by omega, by rw [Nat.pow_succ]; omega, h4⟩
theorem pre_lt {n d k : Nat} {p : List Int} {m : Memo} (h : pre91 n d k p m) : d <= 6 /\ k < 64 := by
 obtain ⟨_, h2, h3, _⟩ := h
 have := Nat.pow_le_pow_right (show 0 < 2 by omega) (show d <= 6 by omega)
 omega
theorem pre_memo {n d k : Nat} {p : List Int} {m m' : Memo} (h : pre91 n d k p m) (hm : memoOk p m') : pre91 n d k p m' := ⟨h.1, h.2.1, h.2.2.1, hm⟩
def odd (k : Nat) : Bool := decide (k % 2 = 1)
theorem odd_spec (k : Nat) : (Int.tmod (k : Int) 2 = 1) ↔ odd k = true := by
 have : Int.tmod (k : Int) 2 = ((k % 2 : Nat) : Int) := rfl
 rw [this]; unfold odd; simp; omega
theorem odd0 (k : Nat) : odd (2 * k) = false := by unfold odd; simp
theorem odd1 (k : Nat) : odd (2 * k + 1) = true := by unfold odd; simp <;> omega
theorem tn0 (k : Nat) : (2 * (k : Int) + 0).toNat = 2 * k := by omega
theorem tn1 (k : Nat) : (2 * (k : Int) + 1).toNat = 2 * k + 1 := by omega
theorem piece_of {n d k : Nat} {p : List Int} {m : Memo} (h : pre91 n d k p m) : isPiece ((d : Int), (k : Int)) := by
 obtain ⟨_, h2, h3, _⟩ := h
 unfold isPiece
 have e : ((2 ^ d : Nat) : Int) = 2 ^ d := by rw [Int.natCast_pow]; try rfl
 simp only [Int.toNat_natCast]
 rw [<- e]
 omega
section
variable (gd : List PQ -> Bool) (p : List Int)
theorem grL_succ (n d k : Nat) : grL gd p (n + 1) d k = if gd (qc p d k) then [((d : Int), (k : Int))] else hvL gd p n d k := rfl
theorem grM_succ (n d k : Nat) (m : Memo) : grM gd p (n + 1) d k m = if gd (qc p d k) then cm p d k m else hvM gd p n d k (cm p d k m) := rfl
theorem grB_succ (n d k : Nat) : grB gd p (n + 1) d k = (gd (qc p d k) || hvB gd p n d k) := rfl
theorem grL_len : ∀ (n d k : Nat), (grL gd p n d k).length <= 2 ^ n
 | 0, d, k => by unfold grL; split <;> simp
 | n + 1, d, k => by
   have h1 := grL_len n (d + 1) (2 * k)
   have h2 := grL_len n (d + 1) (2 * k + 1)
   rw [grL_succ]
   have : 0 < 2 ^ n := Nat.two_pow_pos n
   split
   · simp only [List.length_cons, List.length_nil]; rw [Nat.pow_succ]; omega
   · unfold hvL
     split
     · rw [List.length_append, Nat.pow_succ]; omega
     · rw [Nat.pow_succ]; omega
end
end Go.Am.Bern

/- Bern: pieces that cover a piece; the property is function 71. -/
namespace Go.Am.Bern.P71
open Go Go.Am Go.Proofs Go.Am.Bern
def gd : List PQ -> Bool := fun l => decide (posL l)
def gdB : Ob := .bx (.clo 71 [] [])
def gN (p : List Int) (m : Memo) : List Ob := [gdB, .bx (.ptr 2 0 []), cvB p 3, mmO m, .bx nl, .bx (clo91 0 1 4 5)]
def gO (p : List Int) (m : Memo) (l : List PQ) : List Ob := [gdB, .bx (.ptr 2 0 []), cvB p 3, mmO m, .bx (.own 6 0), .bx (clo91 0 1 4 5), pieO 0 l]
def gS (v : Nat) (p : List Int) (m : Memo) (l : List PQ) : List Ob := [gdB, .bx (.ptr 2 0 []), cvB p 3, mmO m, .bx (.own 5 v), pieO v l, .bx (clo91 0 1 4 6)]
def aN (q : PQ) : List AV := [ofD FR q, .ptr 0 0 [], .ptr 1 0 [], .ptr 4 0 [], .ptr 5 0 []]
def aS (q : PQ) : List AV := [ofD FR q, .ptr 0 0 [], .ptr 1 0 [], .ptr 4 0 [], .ptr 6 0 []]
def GN (n : Nat) : Prop := ∀ (d k : Nat) (p : List Int) (m : Memo), pre91 n d k p m -> grL gd p n d k = [] -> GCall Tryd.prog gl 91 false (aN ((d : Int), (k : Int))) (gN p m) [.ff] (gN p (grM gd p n d k m))
def GO (n : Nat) : Prop := ∀ (d k : Nat) (p : List Int) (m : Memo), pre91 n d k p m -> grL gd p n d k ≠ [] -> GCall Tryd.prog gl 91 false (aN ((d : Int), (k : Int))) (gN p m) [.bool (grB gd p n d k)] (gO p (grM gd p n d k m) (grL gd p n d k))
def GS (n : Nat) : Prop := ∀ (d k : Nat) (p : List Int) (m : Memo) (l : List PQ), pre91 n d k p m -> l.length + (grL gd p n d k).length < 1000000 ->
 GCall Tryd.prog gl 91 false (aS ((d : Int), (k : Int))) (gS 0 p m l) [.bool (grB gd p n d k)] (gS 1 p (grM gd p n d k m) (l ++ grL gd p n d k))
def get91N (xs : List AV) (obs : List Ob) : Option (PQ × List Int × Memo) :=
 match xs with
 | x :: _ => (match toD FR x, unCvB (obs.getD 2 .gone), unMm (obs.getD 3 .gone), isNl (obs.getD 4 .gone) with
   | some q, some p, some m, true => some (q, p, m)
   | _, _, _, _ => none)
 | _ => none
def get91S (xs : List AV) (obs : List Ob) : Option (PQ × List Int × Memo × List PQ) :=
 match xs with
 | x :: _ => (match toD FR x, unCvB (obs.getD 2 .gone), unMm (obs.getD 3 .gone), unPie (obs.getD 5 .gone) with
   | some q, some p, some m, some l => some (q, p, m, l)
   | _, _, _, _ => none)
 | _ => none
theorem en91 : Enters Tryd.prog 91 := ⟨Tryd.f91, by kernel_rfl, by kernel_rfl, by kernel_rfl⟩
def e91N (n : Nat) (h : GN n) : Entry Tryd.prog gl := entryW 91 en91 true get91N (fun x => ∃ d k : Nat, x.1 = ((d : Int), (k : Int)) /\ pre91 n d k x.2.1 x.2.2 /\ grL gd x.2.1 n d k = []) false (fun x => aN x.1) (fun x => gN x.2.1 x.2.2) (fun _ => [.ff])
 (fun x => gN x.2.1 (grM gd x.2.1 n x.1.1.toNat x.1.2.toNat x.2.2)) (by
   rintro ⟨q, p, m⟩ ⟨d, k, hq, h1, h2⟩
   simp only at hq; subst hq
   exact h d k p m h1 h2)
def e91O (n : Nat) (h : GO n) : Entry Tryd.prog gl := entryW 91 en91 true get91N (fun x => ∃ d k : Nat, x.1 = ((d : Int), (k : Int)) /\ pre91 n d k x.2.1 x.2.2 /\ grL gd x.2.1 n d k ≠ []) false (fun x => aN x.1) (fun x => gN x.2.1 x.2.2) (fun x => [.bool (grB gd x.2.1 n x.1.1.toNat x.1.2.toNat)])
 (fun x => gO x.2.1 (grM gd x.2.1 n x.1.1.toNat x.1.2.toNat x.2.2) (grL gd x.2.1 n x.1.1.toNat x.1.2.toNat)) (by
   rintro ⟨q, p, m⟩ ⟨d, k, hq, h1, h2⟩
   simp only at hq; subst hq
   exact h d k p m h1 h2)
def e91S (n : Nat) (h : GS n) : Entry Tryd.prog gl := entryW 91 en91 true get91S (fun x => ∃ d k : Nat, x.1 = ((d : Int), (k : Int)) /\ pre91 n d k x.2.1 x.2.2.1 /\ x.2.2.2.length + (grL gd x.2.1 n d k).length < 1000000) false (fun x => aS x.1) (fun x => gS 0 x.2.1 x.2.2.1 x.2.2.2) (fun x => [.bool (grB gd x.2.1 n x.1.1.toNat x.1.2.toNat)])
 (fun x => gS 1 x.2.1 (grM gd x.2.1 n x.1.1.toNat x.1.2.toNat x.2.2.1) (x.2.2.2 ++ grL gd x.2.1 n x.1.1.toNat x.1.2.toNat)) (by
   rintro ⟨q, p, m, l⟩ ⟨d, k, hq, h1, h2⟩
   simp only at hq; subst hq
   exact h d k p m l h1 h2)
noncomputable def yN (s : LoopState) (j : Option Code) (p : List Int) (m : Memo) (b : AV) : List Ob := [.lp C91 s j (rc91 1 7), .bx (clo91 2 3 6 1), gdB, .bx (.ptr 4 0 []), cvB p 5, mmO m, .bx nl, .bx b]
noncomputable def yO (s : LoopState) (j : Option Code) (p : List Int) (m : Memo) (l : List PQ) (b : AV) : List Ob := [.lp C91 s j (rc91 1 7), .bx (clo91 2 3 6 1), gdB, .bx (.ptr 4 0 []), cvB p 5, mmO m, .bx (.own 8 0), .bx b, pieO 0 l]
noncomputable def yS (v : Nat) (s : LoopState) (j : Option Code) (p : List Int) (m : Memo) (l : List PQ) (b : AV) : List Ob := [.lp C91 s j (rc91 1 8), .bx (clo91 2 3 6 1), gdB, .bx (.ptr 4 0 []), cvB p 5, mmO m, .bx (.own 7 v), pieO v l, .bx b]
def aY (i : Int) (q : PQ) : List AV := [.yld 0, .int .i64 i, ofD FR q]
def YN (n : Nat) : Prop := ∀ (i : Int) (d k : Nat) (p : List Int) (m : Memo), pre91 n d k p m -> grL gd p n d k = [] -> GYield Tryd.prog gl false (aY i ((d : Int), (k : Int))) (yN .ready none p m .ff) [.ff] (yN .done (some (.exit 0)) p (grM gd p n d k m) .ff)
def YO (n : Nat) : Prop := ∀ (i : Int) (d k : Nat) (p : List Int) (m : Memo), pre91 n d k p m -> grL gd p n d k ≠ [] ->
 GYield Tryd.prog gl false (aY i ((d : Int), (k : Int))) (yN .ready none p m .ff) [.bool (grB gd p n d k && !odd k)] (yO (yst (grB gd p n d k) (odd k)) (yjp (grB gd p n d k) (odd k)) p (grM gd p n d k m) (grL gd p n d k) (.bool (grB gd p n d k && odd k)))
def YS (n : Nat) : Prop := ∀ (i : Int) (d k : Nat) (p : List Int) (m : Memo) (l : List PQ), pre91 n d k p m -> l.length + (grL gd p n d k).length < 1000000 ->
 GYield Tryd.prog gl false (aY i ((d : Int), (k : Int))) (yS 0 .ready none p m l .ff) [.bool (grB gd p n d k && !odd k)] (yS 1 (yst (grB gd p n d k) (odd k)) (yjp (grB gd p n d k) (odd k)) p (grM gd p n d k m) (l ++ grL gd p n d k) (.bool (grB gd p n d k && odd k)))
theorem yN_of (n : Nat) (h : GN n) : YN n := by
 intro i d k p m hp hl
 refine gyield_of (X := Xy [e91N n h] [] (some 0) 8 (fun _ => none)) (Xy_ok _ _ _ _ _) (C := C91) (j := none) (vs := [.ptr 1 0 [], .ptr 7 0 []]) (xs := [.int .i64 i, ofD FR ((d : Int), (k : Int))]) (view := false) (by kernel_rfl) (by kernel_rfl) (by kernel_rfl) (H := fun _ => none) 90 90 ?_
 refine of_eq (q := (fun (a : Prop) => (fun (c : Prop) => (fun (b : Prop) => a /\ a /\ a /\ a /\ (((∃ (d_1 : Nat), ∃ (k_1 : Nat), ((d : Int), (k : Int)) = ((d_1 : Int), (k_1 : Int)) /\ pre91 n d_1 k_1 p m /\ grL P71.gd p n d_1 k_1 = []) /\ (((d : Int) = (d : Int) /\ (k : Int) = (k : Int) /\ a) /\ b) /\ c /\ a /\ (p = p /\ c) /\ m = m /\ a /\ (a /\ b) /\ a) /\ a /\ a /\ b) /\ a /\ (false = false /\ a) /\ (C91 = C91 /\ LoopState.done = LoopState.done /\ some (Code.exit (0 : Nat)) = some (Code.exit (0 : Nat)) /\ (a /\ c) /\ a) /\ (a /\ b) /\ c /\ a /\ (p = p /\ c) /\ grM P71.gd p n d k m = grM P71.gd p n d k m /\ a /\ false = false /\ a) (a /\ a /\ a /\ c)) (a /\ a)) (True)) (by kernel_rfl) ?_
 simp only [zz]
 exact ⟨d, k, rfl, hp, hl⟩
theorem yO_of (n : Nat) (h : GO n) : YO n := by
 intro i d k p m hp hl
 refine gyield_of (X := Xy [e91O n h] [] (some 0) 8 (fun _ => none)) (Xy_ok _ _ _ _ _) (C := C91) (j := none) (vs := [.ptr 1 0 [], .ptr 7 0 []]) (xs := [.int .i64 i, ofD FR ((d : Int), (k : Int))]) (view := false) (by kernel_rfl) (by kernel_rfl) (by kernel_rfl) (H := fun _ => none) 90 90 ?_
 refine of_eq (q := (fun (j : Int) => (fun (g : List PQ) => (fun (f : Memo) => (fun (e : Bool) => (fun (c : Prop) => (fun (i : Prop) => (fun (l : Prop) => (fun (h : Prop) => (fun (a : Bool) => (fun (o : Prop) => (fun (b : Prop) => c /\ c /\ c /\ c /\ (((∃ (d_1 : Nat), ∃ (k : Nat), ((d : Int), j) = ((d_1 : Int), (k : Int)) /\ pre91 n d_1 k p m /\ ¬grL P71.gd p n d_1 k = []) /\ (((d : Int) = (d : Int) /\ j = j /\ c) /\ h) /\ i /\ c /\ (p = p /\ i) /\ m = m /\ c /\ (c /\ h) /\ c) /\ c /\ c /\ h) /\ c /\ ((!a) = true -> o /\ (C91 = C91 /\ yst a e = LoopState.done /\ yjp a e = some (Code.exit (0 : Nat)) /\ l) /\ b) /\ ((!a) = false -> c /\ c /\ ¬(2 : Int) = 0 /\ c /\ (j.tmod (2 : Int) = 1 -> c /\ o /\ (C91 = C91 /\ yst a e = LoopState.done /\ yjp a e = some Code.ret /\ l) /\ (c /\ h) /\ i /\ c /\ (p = p /\ i) /\ f = f /\ c /\ true = (a && e) /\ g = g /\ c) /\ (¬j.tmod (2 : Int) = 1 -> (true = (a && !e) /\ c) /\ (C91 = C91 /\ yst a e = LoopState.ready /\ yjp a e = none /\ l) /\ b))) ((c /\ h) /\ i /\ c /\ (p = p /\ i) /\ f = f /\ c /\ false = (a && e) /\ g = g /\ c)) (false = (a && !e) /\ c)) (grB P71.gd p n d k)) (c /\ c /\ c /\ i)) ((c /\ i) /\ c)) (c /\ c)) (True)) (odd k)) (grM P71.gd p n d k m)) (grL P71.gd p n d k)) ((k : Int))) (by kernel_rfl) ?_
 simp only [zz]
 refine ⟨⟨d, k, rfl, hp, hl⟩, fun hb => ?_, fun hb => ⟨by omega, fun ho => ?_, fun ho => ?_⟩⟩
 · have hb' : grB gd p n d k = false := by simpa using hb
   rw [hb']; simp [yst, yjp]
 · have hb' : grB gd p n d k = true := by simpa using hb
   rw [hb', (odd_spec k).mp ho]; simp [yst, yjp]
 · have hb' : grB gd p n d k = true := by simpa using hb
   have ho' : odd k = false := by simpa [odd_spec] using ho
   rw [hb', ho']; simp [yst, yjp]
theorem yS_of (n : Nat) (h : GS n) : YS n := by
 intro i d k p m l hp hl
 refine gyield_of (X := Xb [e91S n h] [] (some 0) 9 [7] (fun _ => none)) (Xb_ok _ _ _ _ _ _) (C := C91) (j := none) (vs := [.ptr 1 0 [], .ptr 8 0 []]) (xs := [.int .i64 i, ofD FR ((d : Int), (k : Int))]) (view := false) (by kernel_rfl) (by kernel_rfl) (by kernel_rfl) (H := fun _ => none) 90 90 ?_
 refine of_eq (q := (fun (j : Int) => (fun (g : Memo) => (fun (f : List PQ) => (fun (e : Bool) => (fun (c : Prop) => (fun (i : Prop) => (fun (o : Prop) => (fun (h : Prop) => (fun (a : Bool) => (fun (q : Prop) => (fun (b : Prop) => c /\ c /\ c /\ c /\ (((∃ (d_1 : Nat), ∃ (k : Nat), ((d : Int), j) = ((d_1 : Int), (k : Int)) /\ pre91 n d_1 k p m /\ l.length + (grL P71.gd p n d_1 k).length < 1000000) /\ (((d : Int) = (d : Int) /\ j = j /\ c) /\ h) /\ i /\ c /\ (p = p /\ i) /\ m = m /\ c /\ l = l /\ (c /\ h) /\ c) /\ c /\ c /\ c /\ h) /\ c /\ ((!a) = true -> q /\ (C91 = C91 /\ yst a e = LoopState.done /\ yjp a e = some (Code.exit (0 : Nat)) /\ o) /\ b) /\ ((!a) = false -> c /\ c /\ ¬(2 : Int) = 0 /\ c /\ (j.tmod (2 : Int) = 1 -> c /\ q /\ (C91 = C91 /\ yst a e = LoopState.done /\ yjp a e = some Code.ret /\ o) /\ (c /\ h) /\ i /\ c /\ (p = p /\ i) /\ g = g /\ c /\ f = f /\ true = (a && e) /\ c) /\ (¬j.tmod (2 : Int) = 1 -> (true = (a && !e) /\ c) /\ (C91 = C91 /\ yst a e = LoopState.ready /\ yjp a e = none /\ o) /\ b))) ((c /\ h) /\ i /\ c /\ (p = p /\ i) /\ g = g /\ c /\ f = f /\ false = (a && e) /\ c)) (false = (a && !e) /\ c)) (grB P71.gd p n d k)) (c /\ c /\ c /\ i)) ((c /\ i) /\ c)) (c /\ c)) (True)) (odd k)) (l ++ grL P71.gd p n d k)) (grM P71.gd p n d k m)) ((k : Int))) (by kernel_rfl) ?_
 simp only [zz]
 refine ⟨⟨d, k, rfl, hp, hl⟩, fun hb => ?_, fun hb => ⟨by omega, fun ho => ?_, fun ho => ?_⟩⟩
 · have hb' : grB gd p n d k = false := by simpa using hb
   rw [hb']; simp [yst, yjp]
 · have hb' : grB gd p n d k = true := by simpa using hb
   rw [hb', (odd_spec k).mp ho]; simp [yst, yjp]
 · have hb' : grB gd p n d k = true := by simpa using hb
   have ho' : odd k = false := by simpa [odd_spec] using ho
   rw [hb', ho']; simp [yst, yjp]
def getYN (xs : List AV) (obs : List Ob) : Option (Int × PQ × List Int × Memo) :=
 match xs with
 | [_, i, x] => (match toInt .i64 i, toD FR x, unCvB (obs.getD 4 .gone), unMm (obs.getD 5 .gone), isNl (obs.getD 6 .gone) with
   | some i, some q, some p, some m, true => some (i, q, p, m)
   | _, _, _, _, _ => none)
 | _ => none
def getYS (xs : List AV) (obs : List Ob) : Option (Int × PQ × List Int × Memo × List PQ) :=
 match xs with
 | [_, i, x] => (match toInt .i64 i, toD FR x, unCvB (obs.getD 4 .gone), unMm (obs.getD 5 .gone), unPie (obs.getD 7 .gone) with
   | some i, some q, some p, some m, some l => some (i, q, p, m, l)
   | _, _, _, _, _ => none)
 | _ => none
noncomputable def EYN (n : Nat) (h : YN n) : YEntry Tryd.prog gl := yentryW getYN (fun x => ∃ d k : Nat, x.2.1 = ((d : Int), (k : Int)) /\ pre91 n d k x.2.2.1 x.2.2.2 /\ grL gd x.2.2.1 n d k = []) false (fun x => aY x.1 x.2.1) (fun x => yN .ready none x.2.2.1 x.2.2.2 .ff) (fun _ => [.ff])
 (fun x => yN .done (some (.exit 0)) x.2.2.1 (grM gd x.2.2.1 n x.2.1.1.toNat x.2.1.2.toNat x.2.2.2) .ff) (by
   rintro ⟨i, q, p, m⟩ ⟨d, k, hq, h1, h2⟩
   simp only at hq; subst hq
   exact h i d k p m h1 h2)
noncomputable def EYO (n : Nat) (h : YO n) : YEntry Tryd.prog gl := yentryW getYN (fun x => ∃ d k : Nat, x.2.1 = ((d : Int), (k : Int)) /\ pre91 n d k x.2.2.1 x.2.2.2 /\ grL gd x.2.2.1 n d k ≠ []) false (fun x => aY x.1 x.2.1) (fun x => yN .ready none x.2.2.1 x.2.2.2 .ff)
 (fun x => [.bool (grB gd x.2.2.1 n x.2.1.1.toNat x.2.1.2.toNat && !odd x.2.1.2.toNat)])
 (fun x => yO (yst (grB gd x.2.2.1 n x.2.1.1.toNat x.2.1.2.toNat) (odd x.2.1.2.toNat)) (yjp (grB gd x.2.2.1 n x.2.1.1.toNat x.2.1.2.toNat) (odd x.2.1.2.toNat)) x.2.2.1 (grM gd x.2.2.1 n x.2.1.1.toNat x.2.1.2.toNat x.2.2.2) (grL gd x.2.2.1 n x.2.1.1.toNat x.2.1.2.toNat) (.bool (grB gd x.2.2.1 n x.2.1.1.toNat x.2.1.2.toNat && odd x.2.1.2.toNat))) (by
   rintro ⟨i, q, p, m⟩ ⟨d, k, hq, h1, h2⟩
   simp only at hq; subst hq
   exact h i d k p m h1 h2)
noncomputable def EYS (n : Nat) (h : YS n) : YEntry Tryd.prog gl := yentryW getYS (fun x => ∃ d k : Nat, x.2.1 = ((d : Int), (k : Int)) /\ pre91 n d k x.2.2.1 x.2.2.2.1 /\ x.2.2.2.2.length + (grL gd x.2.2.1 n d k).length < 1000000) false (fun x => aY x.1 x.2.1) (fun x => yS 0 .ready none x.2.2.1 x.2.2.2.1 x.2.2.2.2 .ff)
 (fun x => [.bool (grB gd x.2.2.1 n x.2.1.1.toNat x.2.1.2.toNat && !odd x.2.1.2.toNat)])
 (fun x => yS 1 (yst (grB gd x.2.2.1 n x.2.1.1.toNat x.2.1.2.toNat) (odd x.2.1.2.toNat)) (yjp (grB gd x.2.2.1 n x.2.1.1.toNat x.2.1.2.toNat) (odd x.2.1.2.toNat)) x.2.2.1 (grM gd x.2.2.1 n x.2.1.1.toNat x.2.1.2.toNat x.2.2.2.1) (x.2.2.2.2 ++ grL gd x.2.2.1 n x.2.1.1.toNat x.2.1.2.toNat) (.bool (grB gd x.2.2.1 n x.2.1.1.toNat x.2.1.2.toNat && odd x.2.1.2.toNat))) (by
   rintro ⟨i, q, p, m, l⟩ ⟨d, k, hq, h1, h2⟩
   simp only at hq; subst hq
   exact h i d k p m l h1 h2)
noncomputable def hN (s : LoopState) (j : Option Code) (p : List Int) (m : Memo) (b : AV) (q : PQ) : List Ob := [.lp C91 s j (rc91 1 7), .bx (clo91 2 3 6 1), gdB, .bx (.ptr 4 0 []), cvB p 5, mmO m, .bx nl, .bx b, bq q]
noncomputable def hO (s : LoopState) (j : Option Code) (p : List Int) (m : Memo) (l : List PQ) (b : AV) (q : PQ) : List Ob := [.lp C91 s j (rc91 1 7), .bx (clo91 2 3 6 1), gdB, .bx (.ptr 4 0 []), cvB p 5, mmO m, .bx (.own 9 0), .bx b, bq q, pieO 0 l]
noncomputable def hS (v : Nat) (s : LoopState) (j : Option Code) (p : List Int) (m : Memo) (l : List PQ) (b : AV) (q : PQ) : List Ob := [.lp C91 s j (rc91 1 8), .bx (clo91 2 3 6 1), gdB, .bx (.ptr 4 0 []), cvB p 5, mmO m, .bx (.own 7 v), pieO v l, .bx b, bq q]
def HN (n : Nat) : Prop := ∀ (d k : Nat) (p : List Int) (m : Memo), pre91 (n + 1) d k p m -> hvL gd p n d k = [] ->
 GCall Tryd.prog gl 97 false [.yld 0, .ptr 8 0 []] (hN .ready none p m .ff ((d : Int), (k : Int))) [] (hN .done (some (.exit 0)) p (hvM gd p n d k m) .ff ((d : Int), (k : Int)))
def HO (n : Nat) : Prop := ∀ (d k : Nat) (p : List Int) (m : Memo), pre91 (n + 1) d k p m -> hvL gd p n d k ≠ [] -> (hvL gd p n d k).length < 1000000 ->
 GCall Tryd.prog gl 97 false [.yld 0, .ptr 8 0 []] (hN .ready none p m .ff ((d : Int), (k : Int))) [] (hO .done (jR (hvB gd p n d k)) p (hvM gd p n d k m) (hvL gd p n d k) (.bool (hvB gd p n d k)) ((d : Int), (k : Int)))
def HS (n : Nat) : Prop := ∀ (d k : Nat) (p : List Int) (m : Memo) (l : List PQ), pre91 (n + 1) d k p m -> l.length + (hvL gd p n d k).length < 1000000 ->
 GCall Tryd.prog gl 97 false [.yld 0, .ptr 9 0 []] (hS 0 .ready none p m l .ff ((d : Int), (k : Int))) [] (hS 1 .done (jR (hvB gd p n d k)) p (hvM gd p n d k m) (l ++ hvL gd p n d k) (.bool (hvB gd p n d k)) ((d : Int), (k : Int)))
def s97 (x i : Nat) (obs : List Ob) : St := ⟨.yld 0 :: .ptr x 0 [] :: .dead :: .dead :: .int .i64 i :: dd 16, obs⟩
noncomputable def L97_0 : Code := lp (bodyOf Tryd.f97) 0
def ex97 : List (List Nat × Ex) := []
noncomputable def fm97N (p : List Int) (m : Memo) (d k : Nat) : List Fam := [⟨Unit, fun _ => True, fun _ => s97 8 0 (hN .ready none p m .ff ((d : Int), (k : Int))), fun _ => 2, fun _ _ => none⟩]
noncomputable def H97N (p : List Int) (m : Memo) (d k : Nat) : Nat -> Option Hint := fun _ => some ⟨chks 9 [0, 1, 4] (fm97N p m d k), ex97.map (·.2)⟩
theorem loop97N (n : Nat) (h : YN n) (p : List Int) (m : Memo) (d k : Nat) (hp : pre91 (n + 1) d k p m) (hl : grL gd p n (d + 1) (2 * k) = []) : LoopOK (Xy [] [EYN n h] none 9 (fun _ => none)) L97_0 ⟨chks 9 [0, 1, 4] (fm97N p m d k), ex97.map (·.2)⟩
   (RetR (Xy [] [EYN n h] none 9 (fun _ => none)) false false [] [] (hN .done (some (.exit 0)) p (grM gd p n (d + 1) (2 * k) m) .ff ((d : Int), (k : Int)))) := by
 refine loop_fams (Xy_ok _ _ _ _ _) [0, 1, 4] (fm97N p m d k) ex97 90 ⟨fun _ _ => ?_, trivial⟩
 refine of_eq (q := (fun (g : Int) => (fun (c : Int) => (fun (b : Int) => (fun (a : Prop) => (fun (f : Prop) => (fun (e : Prop) => a /\ (g < 2 -> a /\ a /\ a /\ a /\ a /\ a /\ inR .i64 c /\ a /\ a /\ inR .i64 ((2 : Int) * (k : Int)) /\ a /\ inR .i64 b /\ a /\ (((∃ (d : Nat), ∃ (k : Nat), (c, b) = ((d : Int), (k : Int)) /\ pre91 n d k p m /\ grL P71.gd p n d k = []) /\ (a /\ g = g /\ (c = c /\ b = b /\ a) /\ a) /\ (C91 = C91 /\ LoopState.ready = LoopState.ready /\ (none : Option Code) = none /\ (a /\ f) /\ a) /\ e /\ f /\ a /\ (p = p /\ f) /\ m = m /\ a /\ false = false /\ a) /\ a /\ a /\ a /\ e) /\ a /\ a /\ a /\ (C91 = C91 /\ LoopState.done = LoopState.done /\ some (Code.exit (0 : Nat)) = some (Code.exit (0 : Nat)) /\ (a /\ f) /\ a) /\ e /\ f /\ a /\ (p = p /\ f) /\ grM P71.gd p n (d + 1) b.toNat m = grM P71.gd p n (d + 1) ((2 : Nat) * k) m /\ a /\ false = false /\ ((d : Int) = (d : Int) /\ (k : Int) = (k : Int) /\ a) /\ a) /\ (¬g < 2 -> False)) (a /\ a /\ a /\ a /\ f)) (a /\ a)) (True)) ((2 : Int) * (k : Int) + g)) ((d : Int) + 1)) ((0 : Int))) (by kernel_rfl) ?_
 simp only [zz]
 have hb := pre_lt hp
 refine ⟨fun _ => ⟨by simp only [inR]; omega, by simp only [inR]; omega, by simp only [inR]; omega, ⟨d + 1, 2 * k, by simp, pre_left hp, hl⟩, ?_⟩, by omega⟩
 rw [tn0]
theorem hvN {n d k : Nat} {p : List Int} (h : hvL gd p n d k = []) : grL gd p n (d + 1) (2 * k) = [] /\ ∀ m, hvM gd p n d k m = grM gd p n (d + 1) (2 * k) m := by
 unfold hvL at h
 split at h
 · rename_i hb
   exact absurd (List.append_eq_nil_iff.mp h).1 (grL_ne gd p hb)
 · rename_i hb
   exact ⟨h, fun m => by unfold hvM; rw [if_neg hb]⟩
theorem hvO {n d k : Nat} {p : List Int} (h : hvL gd p n d k ≠ []) : grL gd p n (d + 1) (2 * k) ≠ [] := by
 unfold hvL at h
 split at h
 · rename_i hb; exact grL_ne gd p hb
 · exact h
theorem hN_of (n : Nat) (h : YN n) : HN n := by
 intro d k p m hp hl
 obtain ⟨h1, h2⟩ := hvN hl
 rw [h2]
 refine gcall_of (X := (Xy [] [EYN n h] none 9 (fun _ => none))) ((Xy_ok _ _ _ _ _)) (f := 97) (fn := Tryd.f97) (c := bodyOf Tryd.f97) (by kernel_rfl) (by kernel_rfl) (view := false) (rvs := []) (by kernel_rfl) (H := (H97N p m d k)) 80 (by kernel_rfl) ?_
 have hL := loop97N n h p m d k hp h1
 refine of_eq (q := (fun (b : Prop) => (fun (a : Cy) => b /\ LoopOK a P71.L97_0 { J := chks (9 : Nat) [(0 : Nat), (1 : Nat), (4 : Nat)] (P71.fm97N p m d k), exits := List.map (fun (x : List Nat × Ex) => x.snd) P71.ex97 } (RetR a false false [] [] (P71.hN LoopState.done (some (Code.exit (0 : Nat))) p (grM P71.gd p n (d + 1) ((2 : Nat) * k) m) AV.ff ((d : Int), (k : Int)))) /\ (∃ (y : Unit), b /\ (b /\ b /\ (0 : Int) = 0 /\ b) /\ (C91 = C91 /\ LoopState.ready = LoopState.ready /\ (none : Option Code) = none /\ (b /\ b /\ b) /\ b) /\ (b /\ b /\ b /\ b /\ b /\ b) /\ (b /\ b) /\ b /\ (p = p /\ b /\ b) /\ m = m /\ b /\ false = false /\ ((d : Int) = (d : Int) /\ (k : Int) = (k : Int) /\ b) /\ b) /\ b) (Xy [] [P71.EYN n h] none (9 : Nat) fun (x : Nat) => none)) (True)) (by kernel_rfl) ?_
 simp only [zz]
 exact hL
noncomputable def fm97O (p : List Int) (m : Memo) (n d k : Nat) : List Fam := [⟨Unit, fun _ => True, fun _ => s97 8 0 (hN .ready none p m .ff ((d : Int), (k : Int))), fun _ => 2, fun _ _ => none⟩,
 ⟨Unit, fun _ => grB gd p n (d + 1) (2 * k) = true, fun _ => s97 8 1 (hO .ready none p (grM gd p n (d + 1) (2 * k) m) (grL gd p n (d + 1) (2 * k)) .ff ((d : Int), (k : Int))), fun _ => 1, fun _ _ => none⟩]
noncomputable def H97O (p : List Int) (m : Memo) (n d k : Nat) : Nat -> Option Hint := fun _ => some ⟨chks 9 [0, 1, 4] (fm97O p m n d k), ex97.map (·.2)⟩
theorem loop97O (n : Nat) (h : YO n) (h' : YS n) (p : List Int) (m : Memo) (d k : Nat) (hp : pre91 (n + 1) d k p m) (hl : hvL gd p n d k ≠ []) (hz : (hvL gd p n d k).length < 1000000) : LoopOK (Xy [] [EYO n h, EYS n h'] none 9 (fun _ => none)) L97_0 ⟨chks 9 [0, 1, 4] (fm97O p m n d k), ex97.map (·.2)⟩
   (RetR (Xy [] [EYO n h, EYS n h'] none 9 (fun _ => none)) false false [] [] (hO .done (jR (hvB gd p n d k)) p (hvM gd p n d k m) (hvL gd p n d k) (.bool (hvB gd p n d k)) ((d : Int), (k : Int)))) := by
 refine loop_fams (Xy_ok _ _ _ _ _) [0, 1, 4] (fm97O p m n d k) ex97 90 ⟨fun _ _ => ?_, fun _ hb1 => ?_, trivial⟩
 · refine of_eq (q := (fun (u : Int) => (fun (s : Int) => (fun (r : Nat) => (fun (o : Int) => (fun (j : Nat) => (fun (f : Int) => (fun (c : Prop) => (fun (l : Prop) => (fun (v : Prop) => (fun (t : Prop) => (fun (i : Prop) => (fun (g : Prop) => (fun (a : Nat) => (fun (q : Memo) => (fun (h : Bool) => (fun (b : Bool) => (fun (e : Prop) => c /\ (s < 2 -> c /\ c /\ c /\ c /\ c /\ c /\ inR .i64 o /\ c /\ c /\ inR .i64 ((2 : Int) * (k : Int)) /\ c /\ inR .i64 f /\ c /\ (((∃ (d : Nat), ∃ (k : Nat), (o, f) = ((d : Int), (k : Int)) /\ pre91 n d k p m /\ ¬grL P71.gd p n d k = []) /\ (c /\ s = s /\ (o = o /\ f = f /\ c) /\ c) /\ (C91 = C91 /\ LoopState.ready = LoopState.ready /\ (none : Option Code) = none /\ v) /\ i /\ l /\ c /\ t /\ m = m /\ c /\ false = false /\ c) /\ c /\ c /\ c /\ i) /\ c /\ ((!(b && !h)) = true -> c /\ c /\ (C91 = C91 /\ LoopState.done = yst b h /\ jR (hvB P71.gd p n d k) = yjp b h /\ v) /\ i /\ l /\ c /\ t /\ q = hvM P71.gd p n d k m /\ c /\ (b && h) = hvB P71.gd p n d k /\ g /\ grL P71.gd p n j a = hvL P71.gd p n d k /\ c) /\ ((!(b && !h)) = false -> inR .i64 u /\ c /\ ((∃ (y : Unit), (c /\ r < r) /\ (c /\ c /\ u = s /\ c) /\ e /\ i /\ l /\ c /\ t /\ q = m /\ False /\ (b && h) = false /\ g /\ c) ∨ ∃ (y : Unit), (grB P71.gd p n j (r * k) = true /\ (1 : Nat) < r) /\ (c /\ c /\ u = u /\ c) /\ e /\ i /\ l /\ c /\ t /\ q = grM P71.gd p n j (r * k) m /\ c /\ (b && h) = false /\ g /\ grL P71.gd p n j a = grL P71.gd p n j (r * k) /\ c))) /\ (¬s < 2 -> False)) (C91 = C91 /\ LoopState.ready = yst b h /\ (none : Option Code) = yjp b h /\ v)) (grB P71.gd p n j a)) (odd a)) (grM P71.gd p n j a m)) (f.toNat)) ((d : Int) = (d : Int) /\ (k : Int) = (k : Int) /\ c)) (c /\ c /\ c /\ c /\ l)) (p = p /\ l)) ((c /\ l) /\ c)) (c /\ c)) (True)) ((2 : Int) * (k : Int) + s)) (d + 1)) ((d : Int) + u)) ((2 : Nat))) ((0 : Int))) ((1 : Int))) (by kernel_rfl) ?_
   simp only [zz]
   have hb := pre_lt hp
   rw [tn0, odd0]
   refine ⟨fun _ => ⟨by simp only [inR]; omega, by simp only [inR]; omega, by simp only [inR]; omega, ⟨d + 1, 2 * k, by simp, pre_left hp, hvO hl⟩, fun hg => ?_, fun hg => ?_⟩, by omega⟩
   · have hg : grB gd p n (d + 1) (2 * k) = false := by simpa using hg
     simp [hvB, hvM, hvL, hg, yst, yjp, jR]
   · have hg : grB gd p n (d + 1) (2 * k) = true := by simpa using hg
     simp only [hg]
     exact ⟨by simp only [inR]; omega, ⟨trivial, by omega⟩, by simp [yst, yjp]⟩
 · have hb1 : grB gd p n (d + 1) (2 * k) = true := hb1
   refine of_eq (q := (fun (u : Int) => (fun (t : Int) => (fun (r : Int) => (fun (o : Nat) => (fun (h : Int) => (fun (f : Prop) => (fun (q : Prop) => (fun (w : Prop) => (fun (v : Prop) => (fun (l : Prop) => (fun (i : Prop) => (fun (e : List PQ) => (fun (c : Memo) => (fun (a : Nat) => (fun (s : Memo) => (fun (j : Bool) => (fun (b : Bool) => (fun (g : Prop) => f /\ (u < t -> f /\ f /\ f /\ f /\ f /\ f /\ inR .i64 r /\ f /\ f /\ inR .i64 (t * (k : Int)) /\ f /\ inR .i64 h /\ f /\ (((∃ (d : Nat), ∃ (k : Nat), (r, h) = ((d : Int), (k : Int)) /\ pre91 n d k p c /\ e.length + (grL P71.gd p n d k).length < 1000000) /\ (f /\ u = u /\ (r = r /\ h = h /\ f) /\ f) /\ (C91 = C91 /\ LoopState.ready = LoopState.ready /\ (none : Option Code) = none /\ w) /\ l /\ q /\ f /\ v /\ c = c /\ f /\ e = e /\ false = false /\ f) /\ f /\ f /\ f /\ f /\ l) /\ f /\ ((!(b && !j)) = true -> f /\ f /\ (C91 = C91 /\ LoopState.done = yst b j /\ jR (hvB P71.gd p n d k) = yjp b j /\ w) /\ l /\ q /\ f /\ v /\ s = hvM P71.gd p n d k m /\ f /\ (b && j) = hvB P71.gd p n d k /\ i /\ e ++ grL P71.gd p n o a = hvL P71.gd p n d k /\ f) /\ ((!(b && !j)) = false -> inR .i64 t /\ f /\ ((∃ (y : Unit), (f /\ (2 : Nat) < 1) /\ (f /\ f /\ t = 0 /\ f) /\ g /\ l /\ q /\ f /\ v /\ s = m /\ False /\ (b && j) = false /\ i /\ f) ∨ ∃ (y : Unit), (grB P71.gd p n o ((2 : Nat) * k) = true /\ (1 : Nat) < 1) /\ (f /\ f /\ t = u /\ f) /\ g /\ l /\ q /\ f /\ v /\ s = c /\ f /\ (b && j) = false /\ i /\ e ++ grL P71.gd p n o a = e /\ f))) /\ (¬u < t -> False)) (C91 = C91 /\ LoopState.ready = yst b j /\ (none : Option Code) = yjp b j /\ w)) (grB P71.gd p n o a)) (odd a)) (grM P71.gd p n o a c)) (h.toNat)) (grM P71.gd p n o ((2 : Nat) * k) m)) (grL P71.gd p n o ((2 : Nat) * k))) ((d : Int) = (d : Int) /\ (k : Int) = (k : Int) /\ f)) (f /\ f /\ f /\ f /\ q)) (p = p /\ q)) ((f /\ q) /\ f)) (f /\ f)) (True)) (t * (k : Int) + u)) (d + 1)) ((d : Int) + u)) ((2 : Int))) ((1 : Int))) (by kernel_rfl) ?_
   simp only [zz]
   have hb := pre_lt hp
   rw [tn1, odd1]
   have e1 : hvL gd p n d k = grL gd p n (d + 1) (2 * k) ++ grL gd p n (d + 1) (2 * k + 1) := by unfold hvL; rw [if_pos hb1]
   have e2 : hvM gd p n d k m = grM gd p n (d + 1) (2 * k + 1) (grM gd p n (d + 1) (2 * k) m) := by unfold hvM; rw [if_pos hb1]
   have e3 : hvB gd p n d k = grB gd p n (d + 1) (2 * k + 1) := by unfold hvB; rw [hb1]; try rfl
   rw [e1, e2, e3]
   rw [e1, List.length_append] at hz
   refine ⟨fun _ => ⟨by simp only [inR]; omega, by simp only [inR]; omega, by simp only [inR]; omega, ⟨d + 1, 2 * k + 1, by simp, pre_memo (pre_right hp) (grM_ok gd p hp.2.2.2), hz⟩, fun _ => ?_, fun hg => ?_⟩, by omega⟩
   · cases grB gd p n (d + 1) (2 * k + 1) <;> simp [yst, yjp, jR]
   · simp at hg
theorem hO_of (n : Nat) (h : YO n) (h' : YS n) : HO n := by
 intro d k p m hp hl hz
 refine gcall_of (X := (Xy [] [EYO n h, EYS n h'] none 9 (fun _ => none))) ((Xy_ok _ _ _ _ _)) (f := 97) (fn := Tryd.f97) (c := bodyOf Tryd.f97) (by kernel_rfl) (by kernel_rfl) (view := false) (rvs := []) (by kernel_rfl) (H := (H97O p m n d k)) 80 (by kernel_rfl) ?_
 have hL := loop97O n h h' p m d k hp hl hz
 refine of_eq (q := (fun (c : Cy) => (fun (b : Prop) => (fun (f : Prop) => (fun (e : Prop) => (fun (a : Prop) => b /\ LoopOK c P71.L97_0 { J := chks (9 : Nat) [(0 : Nat), (1 : Nat), (4 : Nat)] (P71.fm97O p m n d k), exits := List.map (fun (x : List Nat × Ex) => x.snd) P71.ex97 } (RetR c false false [] [] (P71.hO LoopState.done (jR (hvB P71.gd p n d k)) p (hvM P71.gd p n d k m) (hvL P71.gd p n d k) (AV.bool (hvB P71.gd p n d k)) ((d : Int), (k : Int)))) /\ ((∃ (y : Unit), b /\ (b /\ b /\ (0 : Int) = 0 /\ b) /\ a /\ (b /\ b /\ b /\ b /\ f) /\ f /\ b /\ (p = p /\ f) /\ m = m /\ b /\ false = false /\ e /\ b) ∨ ∃ (y : Unit), grB P71.gd p n (d + 1) ((2 : Nat) * k) = true /\ (b /\ b /\ (0 : Int) = 1 /\ b) /\ a /\ (b /\ b /\ b /\ b /\ f) /\ f /\ b /\ (p = p /\ f) /\ m = grM P71.gd p n (d + 1) ((2 : Nat) * k) m /\ False /\ false = false /\ e /\ False) /\ b) (C91 = C91 /\ LoopState.ready = LoopState.ready /\ (none : Option Code) = none /\ (b /\ f) /\ b)) ((d : Int) = (d : Int) /\ (k : Int) = (k : Int) /\ b)) (b /\ b)) (True)) (Xy [] [P71.EYO n h, P71.EYS n h'] none (9 : Nat) fun (x : Nat) => none)) (by kernel_rfl) ?_
 simp only [zz]
 exact hL
noncomputable def fm97S (p : List Int) (m : Memo) (l : List PQ) (n d k : Nat) : List Fam := [⟨Unit, fun _ => True, fun _ => s97 9 0 (hS 0 .ready none p m l .ff ((d : Int), (k : Int))), fun _ => 2, fun _ _ => none⟩,
 ⟨Unit, fun _ => grB gd p n (d + 1) (2 * k) = true, fun _ => s97 9 1 (hS 1 .ready none p (grM gd p n (d + 1) (2 * k) m) (l ++ grL gd p n (d + 1) (2 * k)) .ff ((d : Int), (k : Int))), fun _ => 1, fun _ _ => none⟩]
noncomputable def H97S (p : List Int) (m : Memo) (l : List PQ) (n d k : Nat) : Nat -> Option Hint := fun _ => some ⟨chks 10 [0, 1, 4] (fm97S p m l n d k), ex97.map (·.2)⟩
theorem loop97S (n : Nat) (h' : YS n) (p : List Int) (m : Memo) (l : List PQ) (d k : Nat) (hp : pre91 (n + 1) d k p m) (hz : l.length + (hvL gd p n d k).length < 1000000) : LoopOK (Xb [] [EYS n h'] none 10 [7] (fun _ => none)) L97_0 ⟨chks 10 [0, 1, 4] (fm97S p m l n d k), ex97.map (·.2)⟩
   (RetR (Xb [] [EYS n h'] none 10 [7] (fun _ => none)) false false [] [] (hS 1 .done (jR (hvB gd p n d k)) p (hvM gd p n d k m) (l ++ hvL gd p n d k) (.bool (hvB gd p n d k)) ((d : Int), (k : Int)))) := by
 have hle : (grL gd p n (d + 1) (2 * k)).length <= (hvL gd p n d k).length := by
   unfold hvL; split
   · simp
   · exact Nat.le_refl _
 refine loop_fams (Xb_ok _ _ _ _ _ _) [0, 1, 4] (fm97S p m l n d k) ex97 90 ⟨fun _ _ => ?_, fun _ hb1 => ?_, trivial⟩
 · refine of_eq (q := (fun (v : Int) => (fun (t : Int) => (fun (s : Nat) => (fun (q : Int) => (fun (j : Nat) => (fun (g : Int) => (fun (c : Prop) => (fun (o : Prop) => (fun (w : Prop) => (fun (u : Prop) => (fun (i : Prop) => (fun (f : Prop) => (fun (a : Nat) => (fun (r : Memo) => (fun (h : Bool) => (fun (b : Bool) => (fun (e : Prop) => c /\ (t < 2 -> c /\ c /\ c /\ c /\ c /\ c /\ inR .i64 q /\ c /\ c /\ inR .i64 ((2 : Int) * (k : Int)) /\ c /\ inR .i64 g /\ c /\ (((∃ (d : Nat), ∃ (k : Nat), (q, g) = ((d : Int), (k : Int)) /\ pre91 n d k p m /\ l.length + (grL P71.gd p n d k).length < 1000000) /\ (c /\ t = t /\ (q = q /\ g = g /\ c) /\ c) /\ (C91 = C91 /\ LoopState.ready = LoopState.ready /\ (none : Option Code) = none /\ w) /\ i /\ o /\ c /\ u /\ m = m /\ c /\ l = l /\ false = false /\ c) /\ c /\ c /\ c /\ c /\ i) /\ c /\ ((!(b && !h)) = true -> c /\ c /\ (C91 = C91 /\ LoopState.done = yst b h /\ jR (hvB P71.gd p n d k) = yjp b h /\ w) /\ i /\ o /\ c /\ u /\ r = hvM P71.gd p n d k m /\ c /\ l ++ grL P71.gd p n j a = l ++ hvL P71.gd p n d k /\ (b && h) = hvB P71.gd p n d k /\ f) /\ ((!(b && !h)) = false -> inR .i64 v /\ c /\ ((∃ (y : Unit), (c /\ s < s) /\ (c /\ c /\ v = t /\ c) /\ e /\ i /\ o /\ c /\ u /\ r = m /\ False /\ False /\ (b && h) = false /\ f) ∨ ∃ (y : Unit), (grB P71.gd p n j (s * k) = true /\ (1 : Nat) < s) /\ (c /\ c /\ v = v /\ c) /\ e /\ i /\ o /\ c /\ u /\ r = grM P71.gd p n j (s * k) m /\ c /\ l ++ grL P71.gd p n j a = l ++ grL P71.gd p n j (s * k) /\ (b && h) = false /\ f))) /\ (¬t < 2 -> False)) (C91 = C91 /\ LoopState.ready = yst b h /\ (none : Option Code) = yjp b h /\ w)) (grB P71.gd p n j a)) (odd a)) (grM P71.gd p n j a m)) (g.toNat)) (((d : Int) = (d : Int) /\ (k : Int) = (k : Int) /\ c) /\ c)) (c /\ c /\ c /\ c /\ o)) (p = p /\ o)) ((c /\ o) /\ c)) (c /\ c)) (True)) ((2 : Int) * (k : Int) + t)) (d + 1)) ((d : Int) + v)) ((2 : Nat))) ((0 : Int))) ((1 : Int))) (by kernel_rfl) ?_
   simp only [zz]
   have hb := pre_lt hp
   rw [tn0, odd0]
   refine ⟨fun _ => ⟨by simp only [inR]; omega, by simp only [inR]; omega, by simp only [inR]; omega, ⟨d + 1, 2 * k, by simp, pre_left hp, by omega⟩, fun hg => ?_, fun hg => ?_⟩, by omega⟩
   · have hg : grB gd p n (d + 1) (2 * k) = false := by simpa using hg
     simp [hvB, hvM, hvL, hg, yst, yjp, jR]
   · have hg : grB gd p n (d + 1) (2 * k) = true := by simpa using hg
     simp only [hg]
     exact ⟨by simp only [inR]; omega, ⟨trivial, by omega⟩, by simp [yst, yjp]⟩
 · have hb1 : grB gd p n (d + 1) (2 * k) = true := hb1
   refine of_eq (q := (fun (v : Int) => (fun (u : Int) => (fun (s : Int) => (fun (q : Nat) => (fun (i : Int) => (fun (f : Prop) => (fun (r : Prop) => (fun (x : Prop) => (fun (w : Prop) => (fun (o : Prop) => (fun (h : Prop) => (fun (e : List PQ) => (fun (c : Memo) => (fun (a : Nat) => (fun (t : Memo) => (fun (j : Bool) => (fun (b : Bool) => (fun (g : Prop) => f /\ (u < v -> f /\ f /\ f /\ f /\ f /\ f /\ inR .i64 s /\ f /\ f /\ inR .i64 (v * (k : Int)) /\ f /\ inR .i64 i /\ f /\ (((∃ (d : Nat), ∃ (k : Nat), (s, i) = ((d : Int), (k : Int)) /\ pre91 n d k p c /\ e.length + (grL P71.gd p n d k).length < 1000000) /\ (f /\ u = u /\ (s = s /\ i = i /\ f) /\ f) /\ (C91 = C91 /\ LoopState.ready = LoopState.ready /\ (none : Option Code) = none /\ x) /\ o /\ r /\ f /\ w /\ c = c /\ f /\ e = e /\ false = false /\ f) /\ f /\ f /\ f /\ f /\ o) /\ f /\ ((!(b && !j)) = true -> f /\ f /\ (C91 = C91 /\ LoopState.done = yst b j /\ jR (hvB P71.gd p n d k) = yjp b j /\ x) /\ o /\ r /\ f /\ w /\ t = hvM P71.gd p n d k m /\ f /\ e ++ grL P71.gd p n q a = l ++ hvL P71.gd p n d k /\ (b && j) = hvB P71.gd p n d k /\ h) /\ ((!(b && !j)) = false -> inR .i64 v /\ f /\ ((∃ (y : Unit), (f /\ (2 : Nat) < 1) /\ (f /\ f /\ v = 0 /\ f) /\ g /\ o /\ r /\ f /\ w /\ t = m /\ False /\ False /\ (b && j) = false /\ h) ∨ ∃ (y : Unit), (grB P71.gd p n q ((2 : Nat) * k) = true /\ (1 : Nat) < 1) /\ (f /\ f /\ v = u /\ f) /\ g /\ o /\ r /\ f /\ w /\ t = c /\ f /\ e ++ grL P71.gd p n q a = e /\ (b && j) = false /\ h))) /\ (¬u < v -> False)) (C91 = C91 /\ LoopState.ready = yst b j /\ (none : Option Code) = yjp b j /\ x)) (grB P71.gd p n q a)) (odd a)) (grM P71.gd p n q a c)) (i.toNat)) (grM P71.gd p n q ((2 : Nat) * k) m)) (l ++ grL P71.gd p n q ((2 : Nat) * k))) (((d : Int) = (d : Int) /\ (k : Int) = (k : Int) /\ f) /\ f)) (f /\ f /\ f /\ f /\ r)) (p = p /\ r)) ((f /\ r) /\ f)) (f /\ f)) (True)) (v * (k : Int) + u)) (d + 1)) ((d : Int) + u)) ((1 : Int))) ((2 : Int))) (by kernel_rfl) ?_
   simp only [zz]
   have hb := pre_lt hp
   rw [tn1, odd1]
   have e1 : hvL gd p n d k = grL gd p n (d + 1) (2 * k) ++ grL gd p n (d + 1) (2 * k + 1) := by unfold hvL; rw [if_pos hb1]
   have e2 : hvM gd p n d k m = grM gd p n (d + 1) (2 * k + 1) (grM gd p n (d + 1) (2 * k) m) := by unfold hvM; rw [if_pos hb1]
   have e3 : hvB gd p n d k = grB gd p n (d + 1) (2 * k + 1) := by unfold hvB; rw [hb1]; try rfl
   rw [e1, e2, e3]
   rw [e1, List.length_append] at hz
   refine ⟨fun _ => ⟨by simp only [inR]; omega, by simp only [inR]; omega, by simp only [inR]; omega, ⟨d + 1, 2 * k + 1, by simp, pre_memo (pre_right hp) (grM_ok gd p hp.2.2.2), by rw [List.length_append]; omega⟩, fun _ => ?_, fun hg => ?_⟩, by omega⟩
   · cases grB gd p n (d + 1) (2 * k + 1) <;> simp [yst, yjp, jR]
   · simp at hg
theorem hS_of (n : Nat) (h' : YS n) : HS n := by
 intro d k p m l hp hz
 refine gcall_of (X := (Xb [] [EYS n h'] none 10 [7] (fun _ => none))) ((Xb_ok _ _ _ _ _ _)) (f := 97) (fn := Tryd.f97) (c := bodyOf Tryd.f97) (by kernel_rfl) (by kernel_rfl) (view := false) (rvs := []) (by kernel_rfl) (H := (H97S p m l n d k)) 80 (by kernel_rfl) ?_
 have hL := loop97S n h' p m l d k hp hz
 refine of_eq (q := (fun (c : Cy) => (fun (b : Prop) => (fun (f : Prop) => (fun (e : Prop) => (fun (a : Prop) => b /\ LoopOK c P71.L97_0 { J := chks (10 : Nat) [(0 : Nat), (1 : Nat), (4 : Nat)] (P71.fm97S p m l n d k), exits := List.map (fun (x : List Nat × Ex) => x.snd) P71.ex97 } (RetR c false false [] [] (P71.hS (1 : Nat) LoopState.done (jR (hvB P71.gd p n d k)) p (hvM P71.gd p n d k m) (l ++ hvL P71.gd p n d k) (AV.bool (hvB P71.gd p n d k)) ((d : Int), (k : Int)))) /\ ((∃ (y : Unit), b /\ (b /\ b /\ (0 : Int) = 0 /\ b) /\ a /\ (b /\ b /\ b /\ b /\ f) /\ f /\ b /\ (p = p /\ f) /\ m = m /\ b /\ l = l /\ e) ∨ ∃ (y : Unit), grB P71.gd p n (d + 1) ((2 : Nat) * k) = true /\ (b /\ b /\ (0 : Int) = 1 /\ b) /\ a /\ (b /\ b /\ b /\ b /\ f) /\ f /\ b /\ (p = p /\ f) /\ m = grM P71.gd p n (d + 1) ((2 : Nat) * k) m /\ False /\ False /\ e) /\ b) (C91 = C91 /\ LoopState.ready = LoopState.ready /\ (none : Option Code) = none /\ (b /\ f) /\ b)) (false = false /\ ((d : Int) = (d : Int) /\ (k : Int) = (k : Int) /\ b) /\ b)) (b /\ b)) (True)) (Xb [] [P71.EYS n h'] none (10 : Nat) [(7 : Nat)] fun (x : Nat) => none)) (by kernel_rfl) ?_
 simp only [zz]
 exact hL
def unBq : Ob -> Option PQ
 | .bx c => toD FR c
 | _ => none
def get97N (_ : List AV) (obs : List Ob) : Option (PQ × List Int × Memo) :=
 match unCvB (obs.getD 4 .gone), unMm (obs.getD 5 .gone), isNl (obs.getD 6 .gone), unBq (obs.getD 8 .gone) with
 | some p, some m, true, some q => some (q, p, m)
 | _, _, _, _ => none
def get97S (_ : List AV) (obs : List Ob) : Option (PQ × List Int × Memo × List PQ) :=
 match unCvB (obs.getD 4 .gone), unMm (obs.getD 5 .gone), unPie (obs.getD 7 .gone), unBq (obs.getD 9 .gone) with
 | some p, some m, some l, some q => some (q, p, m, l)
 | _, _, _, _ => none
theorem en97 : Enters Tryd.prog 97 := ⟨Tryd.f97, by kernel_rfl, by kernel_rfl, by kernel_rfl⟩
noncomputable def e97N (n : Nat) (h : HN n) : Entry Tryd.prog gl := entryW 97 en97 true get97N (fun x => ∃ d k : Nat, x.1 = ((d : Int), (k : Int)) /\ pre91 (n + 1) d k x.2.1 x.2.2 /\ hvL gd x.2.1 n d k = []) false (fun _ => [.yld 0, .ptr 8 0 []]) (fun x => hN .ready none x.2.1 x.2.2 .ff x.1) (fun _ => [])
 (fun x => hN .done (some (.exit 0)) x.2.1 (hvM gd x.2.1 n x.1.1.toNat x.1.2.toNat x.2.2) .ff x.1) (by
   rintro ⟨q, p, m⟩ ⟨d, k, hq, h1, h2⟩
   simp only at hq; subst hq
   exact h d k p m h1 h2)
noncomputable def e97O (n : Nat) (h : HO n) : Entry Tryd.prog gl := entryW 97 en97 true get97N (fun x => ∃ d k : Nat, x.1 = ((d : Int), (k : Int)) /\ pre91 (n + 1) d k x.2.1 x.2.2 /\ hvL gd x.2.1 n d k ≠ [] /\ (hvL gd x.2.1 n d k).length < 1000000) false (fun _ => [.yld 0, .ptr 8 0 []]) (fun x => hN .ready none x.2.1 x.2.2 .ff x.1) (fun _ => [])
 (fun x => hO .done (jR (hvB gd x.2.1 n x.1.1.toNat x.1.2.toNat)) x.2.1 (hvM gd x.2.1 n x.1.1.toNat x.1.2.toNat x.2.2) (hvL gd x.2.1 n x.1.1.toNat x.1.2.toNat) (.bool (hvB gd x.2.1 n x.1.1.toNat x.1.2.toNat)) x.1) (by
   rintro ⟨q, p, m⟩ ⟨d, k, hq, h1, h2, h3⟩
   simp only at hq; subst hq
   exact h d k p m h1 h2 h3)
noncomputable def e97S (n : Nat) (h : HS n) : Entry Tryd.prog gl := entryW 97 en97 true get97S (fun x => ∃ d k : Nat, x.1 = ((d : Int), (k : Int)) /\ pre91 (n + 1) d k x.2.1 x.2.2.1 /\ x.2.2.2.length + (hvL gd x.2.1 n d k).length < 1000000) false (fun _ => [.yld 0, .ptr 9 0 []]) (fun x => hS 0 .ready none x.2.1 x.2.2.1 x.2.2.2 .ff x.1) (fun _ => [])
 (fun x => hS 1 .done (jR (hvB gd x.2.1 n x.1.1.toNat x.1.2.toNat)) x.2.1 (hvM gd x.2.1 n x.1.1.toNat x.1.2.toNat x.2.2.1) (x.2.2.2 ++ hvL gd x.2.1 n x.1.1.toNat x.1.2.toNat) (.bool (hvB gd x.2.1 n x.1.1.toNat x.1.2.toNat)) x.1) (by
   rintro ⟨q, p, m, l⟩ ⟨d, k, hq, h1, h2⟩
   simp only at hq; subst hq
   exact h d k p m l h1 h2)
noncomputable def E91 : EL := [e69, e71, e92]
theorem gN0 : GN 0 := by
 intro d k p m hp hl
 have h0 := pre_lt hp
 have hpc := piece_of hp
 have hln := qc_length p d k
 have hpl := hp.1.2.1
 have hd6 := hp.2.1
 refine gcall_of (X := (Xy E91 [] none 6 (drOf [(1, 4005)]))) ((Xy_ok _ _ _ _ _)) (f := 91) (fn := Tryd.f91) (c := bodyOf Tryd.f91) (by kernel_rfl) (by kernel_rfl) (view := false) (rvs := [.cell 6 4]) (by kernel_rfl) (H := fun _ => none) 80 (by kernel_rfl) ?_
 refine of_eq (q := (fun (e : Int) => (fun (b : Prop) => (fun (a : Prop) => (fun (c : Prop) => (fun (f : Prop) => a /\ a /\ a /\ true = true /\ a /\ true = true /\ a /\ true = true /\ ((isPoly p /\ isPiece (e, (k : Int)) /\ e < 7 /\ memoOk p m) /\ a /\ c) /\ ((a /\ AV.clo (71 : FuncId) [] [] = AV.clo (71 : FuncId) [] []) /\ a) /\ (qc p d k).length + 1 <= 1000000 /\ a /\ (decide (posL (qc p d k)) = true -> a /\ a /\ a /\ sumPre (0 : Nat) [(e, (k : Int))].length (nat_lit 16) /\ a /\ a /\ c /\ (true = false /\ a) /\ c /\ a /\ (p = p /\ c) /\ b /\ False /\ f) /\ (decide (posL (qc p d k)) = false -> a /\ a /\ a /\ (e = 6 -> a /\ c /\ (false = false /\ a) /\ c /\ a /\ (p = p /\ c) /\ b /\ a /\ f) /\ (¬e = 6 -> a /\ c /\ False))) ((a /\ a /\ a /\ a /\ c) /\ a)) (a /\ a)) (True)) (cm p d k m = grM P71.gd p (0 : Nat) d k m)) ((d : Int))) (by kernel_rfl) ?_
 simp only [zz]
 refine ⟨⟨hp.1, hpc, by omega, hp.2.2.2⟩, by omega, fun h => ?_, fun h => ⟨fun _ => rfl, fun h6 => by omega⟩⟩
 have h : gd (qc p d k) = true := h
 unfold grL at hl
 rw [if_pos h] at hl
 cases hl
theorem gO0 : GO 0 := by
 intro d k p m hp hl
 have h0 := pre_lt hp
 have hpc := piece_of hp
 have hln := qc_length p d k
 have hpl := hp.1.2.1
 have hd6 := hp.2.1
 refine gcall_of (X := (Xy E91 [] none 6 (drOf [(1, 4005)]))) ((Xy_ok _ _ _ _ _)) (f := 91) (fn := Tryd.f91) (c := bodyOf Tryd.f91) (by kernel_rfl) (by kernel_rfl) (view := false) (rvs := [.cell 6 4]) (by kernel_rfl) (H := fun _ => none) 80 (by kernel_rfl) ?_
 refine of_eq (q := (fun (f : Nat) => (fun (e : Int) => (fun (b : Prop) => (fun (a : Prop) => (fun (c : Prop) => a /\ a /\ a /\ true = true /\ a /\ true = true /\ a /\ true = true /\ ((isPoly p /\ isPiece (e, (k : Int)) /\ e < 7 /\ memoOk p m) /\ a /\ c) /\ ((a /\ AV.clo (71 : FuncId) [] [] = AV.clo (71 : FuncId) [] []) /\ a) /\ (qc p d k).length + 1 <= 1000000 /\ a /\ (decide (posL (qc p d k)) = true -> a /\ a /\ a /\ sumPre f [(e, (k : Int))].length (nat_lit 16) /\ a /\ a /\ c /\ (true = grB P71.gd p f d k /\ a) /\ c /\ a /\ (p = p /\ c) /\ b /\ a /\ (a /\ a /\ a /\ a /\ c) /\ [(e, (k : Int))] = grL P71.gd p f d k /\ a) /\ (decide (posL (qc p d k)) = false -> a /\ a /\ a /\ (e = 6 -> a /\ c /\ (false = grB P71.gd p f d k /\ a) /\ c /\ a /\ (p = p /\ c) /\ b /\ False /\ (a /\ a /\ a /\ a /\ c) /\ False) /\ (¬e = 6 -> a /\ c /\ False))) (a /\ a)) (True)) (cm p d k m = grM P71.gd p f d k m)) ((d : Int))) ((0 : Nat))) (by kernel_rfl) ?_
 simp only [zz]
 refine ⟨⟨hp.1, hpc, by omega, hp.2.2.2⟩, by omega, fun h => ?_, fun h => ⟨fun _ => ?_, fun h6 => by omega⟩⟩
 · have h : gd (qc p d k) = true := h
   refine ⟨by unfold sumPre; simp, h.symm, rfl, ?_⟩
   unfold grL; rw [if_pos h]
 · have h : gd (qc p d k) = false := h
   unfold grL at hl
   rw [if_neg (by simp [h])] at hl
   exact hl rfl
theorem gS0 : GS 0 := by
 intro d k p m l hp hl
 have h0 := pre_lt hp
 have hpc := piece_of hp
 have hln := qc_length p d k
 have hpl := hp.1.2.1
 have hd6 := hp.2.1
 refine gcall_of (X := (Xb E91 [] none 7 [5] (drOf [(1, 4005)]))) ((Xb_ok _ _ _ _ _ _)) (f := 91) (fn := Tryd.f91) (c := bodyOf Tryd.f91) (by kernel_rfl) (by kernel_rfl) (view := false) (rvs := [.cell 6 4]) (by kernel_rfl) (H := fun _ => none) 80 (by kernel_rfl) ?_
 refine of_eq (q := (fun (f : List PQ) => (fun (e : Int) => (fun (b : Prop) => (fun (a : Prop) => (fun (c : Prop) => (fun (g : Prop) => a /\ a /\ a /\ true = true /\ a /\ true = true /\ a /\ true = true /\ ((isPoly p /\ isPiece (e, (k : Int)) /\ e < 7 /\ memoOk p m) /\ a /\ c) /\ ((a /\ AV.clo (71 : FuncId) [] [] = AV.clo (71 : FuncId) [] []) /\ a) /\ (qc p d k).length + 1 <= 1000000 /\ a /\ (decide (posL (qc p d k)) = true -> a /\ a /\ a /\ sumPre l.length [(e, (k : Int))].length (nat_lit 16) /\ a /\ a /\ c /\ (true = grB P71.gd p (0 : Nat) d k /\ a) /\ c /\ a /\ (p = p /\ c) /\ b /\ a /\ l ++ [(e, (k : Int))] = f /\ g) /\ (decide (posL (qc p d k)) = false -> a /\ a /\ a /\ (e = 6 -> a /\ c /\ (false = grB P71.gd p (0 : Nat) d k /\ a) /\ c /\ a /\ (p = p /\ c) /\ b /\ a /\ l = f /\ g) /\ (¬e = 6 -> a /\ c /\ False))) ((a /\ a /\ a /\ a /\ c) /\ a)) (a /\ a)) (True)) (cm p d k m = grM P71.gd p (0 : Nat) d k m)) ((d : Int))) (l ++ grL P71.gd p (0 : Nat) d k)) (by kernel_rfl) ?_
 simp only [zz]
 refine ⟨⟨hp.1, hpc, by omega, hp.2.2.2⟩, by omega, fun h => ?_, fun h => ⟨fun _ => ?_, fun h6 => by omega⟩⟩
 · have h : gd (qc p d k) = true := h
   refine ⟨by unfold sumPre; simp; omega, h.symm, rfl, ?_⟩
   unfold grL; rw [if_pos h]; try rfl
 · have h : gd (qc p d k) = false := h
   refine ⟨h.symm, rfl, ?_⟩
   unfold grL; rw [if_neg (by simp [h])]; simp
theorem gN1 (n : Nat) (h : HN n) : GN (n + 1) := by
 intro d k p m hp hl
 have h0 := pre_lt hp
 have hpc := piece_of hp
 have hln := qc_length p d k
 have hpl := hp.1.2.1
 have hd6 := hp.2.1
 refine gcall_of (X := (Xy (e97N n h :: E91) [] none 6 (drOf [(1, 4005)]))) ((Xy_ok _ _ _ _ _)) (f := 91) (fn := Tryd.f91) (c := bodyOf Tryd.f91) (by kernel_rfl) (by kernel_rfl) (view := false) (rvs := [.cell 6 4]) (by kernel_rfl) (H := fun _ => none) 80 (by kernel_rfl) ?_
 refine of_eq (q := (fun (l : Prop) => (fun (j : Int) => (fun (i : Int) => (fun (h : Memo) => (fun (f : Memo) => (fun (c : Option Code) => (fun (b : Prop) => (fun (e : Prop) => (fun (o : Prop) => (fun (g : Prop) => (fun (a : Prop) => b /\ b /\ b /\ true = true /\ b /\ true = true /\ b /\ true = true /\ ((isPoly p /\ isPiece (i, j) /\ i < 7 /\ memoOk p m) /\ b /\ e) /\ ((b /\ AV.clo (71 : FuncId) [] [] = AV.clo (71 : FuncId) [] []) /\ b) /\ (qc p d k).length + 1 <= 1000000 /\ b /\ (decide (posL (qc p d k)) = true -> b /\ b /\ b /\ sumPre (0 : Nat) [(i, j)].length (nat_lit 16) /\ b /\ b /\ e /\ (true = false /\ b) /\ e /\ b /\ o /\ h = f /\ False /\ g /\ b) /\ (decide (posL (qc p d k)) = false -> b /\ b /\ b /\ (i = 6 -> b /\ e /\ (l /\ b) /\ e /\ b /\ o /\ h = f /\ b /\ g /\ b) /\ (¬i = 6 -> b /\ e /\ ((((∃ (d : Nat), ∃ (k : Nat), (i, j) = ((d : Int), (k : Int)) /\ pre91 (n + 1) d k p h /\ hvL P71.gd p n d k = []) /\ (b /\ e) /\ (C91 = C91 /\ LoopState.ready = LoopState.ready /\ (none : Option Code) = none /\ (b /\ e) /\ b) /\ g /\ e /\ b /\ o /\ h = h /\ b /\ l /\ (i = i /\ j = j /\ b) /\ b) /\ b /\ b /\ b /\ b /\ g) /\ ¬LoopState.done = LoopState.busy) /\ (c = none -> b /\ a) /\ (c = c ∨ c = some Code.ret ∨ c = none) /\ (c = c -> b /\ a) /\ (c = some Code.ret -> a) /\ b))) (e /\ (l /\ b) /\ e /\ b /\ o /\ hvM P71.gd p n d k h = f /\ b /\ g /\ b)) (b /\ b /\ b /\ b /\ e)) (p = p /\ e)) (b /\ b)) (True)) (some (Code.exit (0 : Nat)))) (grM P71.gd p (n + 1) d k m)) (cm p d k m)) ((d : Int))) ((k : Int))) (false = false)) (by kernel_rfl) ?_
 simp only [zz]
 have hg : gd (qc p d k) = false := by
   cases hg : gd (qc p d k) with
   | false => rfl
   | true => rw [grL_succ, if_pos hg] at hl; cases hl
 have e : hvM gd p n d k (cm p d k m) = grM gd p (n + 1) d k m := by rw [grM_succ, if_neg (by simp [hg])]
 have e2 : hvL gd p n d k = [] := by rwa [grL_succ, if_neg (by simp [hg])] at hl
 refine ⟨⟨hp.1, hpc, by omega, hp.2.2.2⟩, by omega, fun h => ?_, fun h => ⟨fun _ => by omega, fun h6 => ?_⟩⟩
 · have h : gd (qc p d k) = true := h
   rw [hg] at h; cases h
 · exact ⟨⟨⟨d, k, rfl, pre_memo hp (cm_ok hp.2.2.2), e2⟩, by simp⟩, fun _ => e, .inl trivial, fun _ => e, fun _ => e⟩
theorem gO1 (n : Nat) (h : HO n) : GO (n + 1) := by
 intro d k p m hp hl
 have h0 := pre_lt hp
 have hpc := piece_of hp
 have hln := qc_length p d k
 have hpl := hp.1.2.1
 have hd6 := hp.2.1
 refine gcall_of (X := (Xy (e97O n h :: E91) [] none 6 (drOf [(1, 4005)]))) ((Xy_ok _ _ _ _ _)) (f := 91) (fn := Tryd.f91) (c := bodyOf Tryd.f91) (by kernel_rfl) (by kernel_rfl) (view := false) (rvs := [.cell 6 4]) (by kernel_rfl) (H := fun _ => none) 80 (by kernel_rfl) ?_
 refine of_eq (q := (fun (o : Nat) => (fun (l : Int) => (fun (j : Memo) => (fun (i : Int) => (fun (g : Memo) => (fun (e : Bool) => (fun (c : Option Code) => (fun (b : Prop) => (fun (f : Prop) => (fun (r : Prop) => (fun (h : Prop) => (fun (a : Prop) => (fun (q : Prop) => b /\ b /\ b /\ true = true /\ b /\ true = true /\ b /\ true = true /\ ((isPoly p /\ isPiece (i, l) /\ i < 7 /\ memoOk p m) /\ b /\ f) /\ ((b /\ AV.clo (71 : FuncId) [] [] = AV.clo (71 : FuncId) [] []) /\ b) /\ (qc p d k).length + 1 <= 1000000 /\ b /\ (decide (posL (qc p d k)) = true -> b /\ b /\ b /\ sumPre (0 : Nat) [(i, l)].length (nat_lit 16) /\ b /\ b /\ f /\ (true = e /\ b) /\ f /\ b /\ r /\ j = g /\ b /\ h /\ [(i, l)] = grL P71.gd p o d k /\ b) /\ (decide (posL (qc p d k)) = false -> b /\ b /\ b /\ (i = 6 -> b /\ f /\ (false = e /\ b) /\ f /\ b /\ r /\ j = g /\ False /\ h /\ False) /\ (¬i = 6 -> b /\ f /\ ((((∃ (d : Nat), ∃ (k : Nat), (i, l) = ((d : Int), (k : Int)) /\ pre91 o d k p j /\ ¬hvL P71.gd p n d k = [] /\ (hvL P71.gd p n d k).length < 1000000) /\ (b /\ f) /\ (C91 = C91 /\ LoopState.ready = LoopState.ready /\ (none : Option Code) = none /\ (b /\ f) /\ b) /\ h /\ f /\ b /\ r /\ j = j /\ b /\ false = false /\ (i = i /\ l = l /\ b) /\ b) /\ b /\ b /\ b /\ b /\ h) /\ ¬LoopState.done = LoopState.busy) /\ (c = none -> q) /\ (c = some (Code.exit (0 : Nat)) ∨ c = some Code.ret ∨ c = none) /\ (c = some (Code.exit (0 : Nat)) -> q) /\ (c = some Code.ret -> f /\ (hvB P71.gd p n d k = e /\ b) /\ a) /\ b))) (b /\ f /\ (false = e /\ b) /\ a)) (f /\ b /\ r /\ hvM P71.gd p n d k j = g /\ b /\ h /\ hvL P71.gd p n d k = grL P71.gd p o d k /\ b)) (b /\ b /\ b /\ b /\ f)) (p = p /\ f)) (b /\ b)) (True)) (jR (hvB P71.gd p n d k))) (grB P71.gd p o d k)) (grM P71.gd p o d k m)) ((d : Int))) (cm p d k m)) ((k : Int))) (n + 1)) (by kernel_rfl) ?_
 simp only [zz]
 have hln2 := grL_len gd p (n + 1) d k
 have hn2 := Nat.pow_le_pow_right (show 0 < 2 by omega) (show n + 1 <= 6 by omega)
 refine ⟨⟨hp.1, hpc, by omega, hp.2.2.2⟩, by omega, fun h => ?_, fun h => ⟨fun _ => by omega, fun h6 => ?_⟩⟩
 · have hg : gd (qc p d k) = true := h
   rw [grB_succ, grM_succ, grL_succ, if_pos hg, if_pos hg, hg]
   exact ⟨by unfold sumPre; simp, rfl, rfl, rfl⟩
 · have hg : gd (qc p d k) = false := h
   have hng : ¬ gd (qc p d k) = true := by simp [hg]
   rw [grL_succ, if_neg hng] at hl hln2
   rw [grB_succ, grM_succ, grL_succ, if_neg hng, if_neg hng, hg]
   refine ⟨⟨⟨d, k, rfl, pre_memo hp (cm_ok hp.2.2.2), hl, by omega⟩, by simp⟩, ?_⟩
   cases hvB gd p n d k <;> simp [jR]
theorem gS1 (n : Nat) (h : HS n) : GS (n + 1) := by
 intro d k p m l hp hl
 have h0 := pre_lt hp
 have hpc := piece_of hp
 have hln := qc_length p d k
 have hpl := hp.1.2.1
 have hd6 := hp.2.1
 refine gcall_of (X := (Xb (e97S n h :: E91) [] none 7 [5] (drOf [(1, 4005)]))) ((Xb_ok _ _ _ _ _ _)) (f := 91) (fn := Tryd.f91) (c := bodyOf Tryd.f91) (by kernel_rfl) (by kernel_rfl) (view := false) (rvs := [.cell 6 4]) (by kernel_rfl) (H := fun _ => none) 80 (by kernel_rfl) ?_
 refine of_eq (q := (fun (r : Nat) => (fun (q : Int) => (fun (o : Memo) => (fun (j : Int) => (fun (h : Memo) => (fun (g : List PQ) => (fun (e : Bool) => (fun (c : Option Code) => (fun (b : Prop) => (fun (f : Prop) => (fun (t : Prop) => (fun (i : Prop) => (fun (a : Prop) => (fun (s : Prop) => b /\ b /\ b /\ true = true /\ b /\ true = true /\ b /\ true = true /\ ((isPoly p /\ isPiece (j, q) /\ j < 7 /\ memoOk p m) /\ b /\ f) /\ ((b /\ AV.clo (71 : FuncId) [] [] = AV.clo (71 : FuncId) [] []) /\ b) /\ (qc p d k).length + 1 <= 1000000 /\ b /\ (decide (posL (qc p d k)) = true -> b /\ b /\ b /\ sumPre l.length [(j, q)].length (nat_lit 16) /\ b /\ b /\ f /\ (true = e /\ b) /\ f /\ b /\ t /\ o = h /\ b /\ l ++ [(j, q)] = g /\ i /\ b) /\ (decide (posL (qc p d k)) = false -> b /\ b /\ b /\ (j = 6 -> b /\ f /\ (false = e /\ b) /\ f /\ b /\ t /\ o = h /\ b /\ l = g /\ i /\ b) /\ (¬j = 6 -> b /\ f /\ ((((∃ (d : Nat), ∃ (k : Nat), (j, q) = ((d : Int), (k : Int)) /\ pre91 r d k p o /\ l.length + (hvL P71.gd p n d k).length < 1000000) /\ (b /\ f) /\ (C91 = C91 /\ LoopState.ready = LoopState.ready /\ (none : Option Code) = none /\ (b /\ f) /\ b) /\ i /\ f /\ b /\ t /\ o = o /\ b /\ l = l /\ false = false /\ (j = j /\ q = q /\ b) /\ b) /\ b /\ b /\ b /\ b /\ b /\ i) /\ ¬LoopState.done = LoopState.busy) /\ (c = none -> s) /\ (c = some (Code.exit (0 : Nat)) ∨ c = some Code.ret ∨ c = none) /\ (c = some (Code.exit (0 : Nat)) -> s) /\ (c = some Code.ret -> f /\ (hvB P71.gd p n d k = e /\ b) /\ a) /\ b))) (b /\ f /\ (false = e /\ b) /\ a)) (f /\ b /\ t /\ hvM P71.gd p n d k o = h /\ b /\ l ++ hvL P71.gd p n d k = g /\ i /\ b)) (b /\ b /\ b /\ b /\ f)) (p = p /\ f)) (b /\ b)) (True)) (jR (hvB P71.gd p n d k))) (grB P71.gd p r d k)) (l ++ grL P71.gd p r d k)) (grM P71.gd p r d k m)) ((d : Int))) (cm p d k m)) ((k : Int))) (n + 1)) (by kernel_rfl) ?_
 simp only [zz]
 refine ⟨⟨hp.1, hpc, by omega, hp.2.2.2⟩, by omega, fun h => ?_, fun h => ⟨fun _ => by omega, fun h6 => ?_⟩⟩
 · have hg : gd (qc p d k) = true := h
   rw [grB_succ, grM_succ, grL_succ, if_pos hg, if_pos hg, hg]
   exact ⟨by unfold sumPre; simp; omega, rfl, rfl, rfl⟩
 · have hg : gd (qc p d k) = false := h
   have hng : ¬ gd (qc p d k) = true := by simp [hg]
   rw [grL_succ, if_neg hng] at hl
   rw [grB_succ, grM_succ, grL_succ, if_neg hng, if_neg hng, hg]
   refine ⟨⟨⟨d, k, rfl, pre_memo hp (cm_ok hp.2.2.2), hl⟩, by simp⟩, ?_⟩
   cases hvB gd p n d k <;> simp [jR]
/-- All levels. -/
theorem g_all : ∀ n, GN n /\ GO n /\ GS n
 | 0 => ⟨gN0, gO0, gS0⟩
 | n + 1 => by
   obtain ⟨h1, h2, h3⟩ := g_all n
   exact ⟨gN1 n (hN_of n (yN_of n h1)), gO1 n (hO_of n (yO_of n h2) (yS_of n h3)), gS1 n (hS_of n (yS_of n h3))⟩
noncomputable def e91n : Entry Tryd.prog gl := e91N 6 (g_all 6).1
noncomputable def e91o : Entry Tryd.prog gl := e91O 6 (g_all 6).2.1
def coverB (p : List Int) : Bool := grB gd p 6 0 0
def coverL (p : List Int) : List PQ := grL gd p 6 0 0
def coverM (p : List Int) (m : Memo) : Memo := grM gd p 6 0 0 m
def a63 : List AV := [.ptr 0 0 [], ofD FR ((0 : Int), (0 : Int)), .clo 71 [] []]
def P63N : Prop := ∀ (p : List Int) (m : Memo), isPoly p -> memoOk p m -> coverB p = false -> GCall Tryd.prog gl 63 false a63 [cvO p, mmO m] [nl] [cvO p, mmO (coverM p m)]
def P63O : Prop := ∀ (p : List Int) (m : Memo), isPoly p -> memoOk p m -> coverB p = true -> GCall Tryd.prog gl 63 false a63 [cvO p, mmO m] [.own 2 0] [cvO p, mmO (coverM p m), pieO 0 (coverL p)]
theorem pre6 {p : List Int} {m : Memo} (hp : isPoly p) (hm : memoOk p m) : pre91 6 0 0 p m := ⟨hp, rfl, by omega, hm⟩
theorem call63N : P63N := by
 intro p m hp hm hb
 have hb' : grB gd p 6 0 0 = false := hb
 by_cases hl : grL gd p 6 0 0 = []
 · refine gcall_of (X := (Xy [e91n] [] none 2 (fun _ => none))) ((Xy_ok _ _ _ _ _)) (f := 63) (fn := Tryd.f63) (c := bodyOf Tryd.f63) (by kernel_rfl) (by kernel_rfl) (view := false) (rvs := [.tmp 6]) (by kernel_rfl) (H := fun _ => none) 80 (by kernel_rfl) ?_
   refine of_eq (q := (fun (c : Int) => (fun (a : Prop) => (fun (e : Prop) => (fun (b : Prop) => a /\ a /\ a /\ a /\ a /\ a /\ a /\ a /\ a /\ a /\ (((∃ (d : Nat), ∃ (k : Nat), (c, c) = ((d : Int), (k : Int)) /\ pre91 (6 : Nat) d k p m /\ grL P71.gd p (6 : Nat) d k = []) /\ ((c = c /\ c = c /\ a) /\ b) /\ e /\ a /\ (p = p /\ e) /\ m = m /\ a /\ (a /\ b) /\ a) /\ a /\ a /\ b) /\ a /\ a /\ a /\ e /\ (p = p /\ e) /\ grM P71.gd p (6 : Nat) (0 : Nat) (0 : Nat) m = P71.coverM p m /\ a) (a /\ a /\ a /\ e)) (a /\ a)) (True)) ((0 : Int))) (by kernel_rfl) ?_
   simp only [zz]
   exact ⟨⟨0, 0, rfl, pre6 hp hm, hl⟩, rfl⟩
 · refine gcall_of (X := (Xy [e91o] [] none 2 (fun _ => none))) ((Xy_ok _ _ _ _ _)) (f := 63) (fn := Tryd.f63) (c := bodyOf Tryd.f63) (by kernel_rfl) (by kernel_rfl) (view := false) (rvs := [.tmp 6]) (by kernel_rfl) (H := fun _ => none) 80 (by kernel_rfl) ?_
   refine of_eq (q := (fun (f : Int) => (fun (c : Bool) => (fun (a : Prop) => (fun (g : Prop) => (fun (e : Prop) => (fun (b : Prop) => a /\ a /\ a /\ a /\ a /\ a /\ a /\ a /\ a /\ a /\ (((∃ (d : Nat), ∃ (k : Nat), (f, f) = ((d : Int), (k : Int)) /\ pre91 (6 : Nat) d k p m /\ ¬grL P71.gd p (6 : Nat) d k = []) /\ ((f = f /\ f = f /\ a) /\ e) /\ g /\ a /\ (p = p /\ g) /\ m = m /\ a /\ (a /\ e) /\ a) /\ a /\ a /\ e) /\ a /\ (c = true -> a /\ a /\ g /\ b) /\ (c = false -> a /\ a /\ a /\ (False /\ a) /\ b)) ((p = p /\ g) /\ grM P71.gd p (6 : Nat) (0 : Nat) (0 : Nat) m = P71.coverM p m /\ a)) (a /\ a /\ a /\ g)) (a /\ a)) (True)) (!grB P71.gd p (6 : Nat) (0 : Nat) (0 : Nat))) ((0 : Int))) (by kernel_rfl) ?_
   simp only [zz]
   refine ⟨⟨0, 0, rfl, pre6 hp hm, hl⟩, fun _ => rfl, fun h => ?_⟩
   simp [hb'] at h
theorem call63O : P63O := by
 intro p m hp hm hb
 have hb' : grB gd p 6 0 0 = true := hb
 have hl := grL_ne gd p hb'
 refine gcall_of (X := (Xy [e91o] [] none 2 (fun _ => none))) ((Xy_ok _ _ _ _ _)) (f := 63) (fn := Tryd.f63) (c := bodyOf Tryd.f63) (by kernel_rfl) (by kernel_rfl) (view := false) (rvs := [.tmp 6]) (by kernel_rfl) (H := fun _ => none) 80 (by kernel_rfl) ?_
 refine of_eq (q := (fun (i : Nat) => (fun (g : Nat) => (fun (f : Int) => (fun (c : Bool) => (fun (b : Prop) => (fun (a : Prop) => (fun (h : Prop) => (fun (e : Prop) => a /\ a /\ a /\ a /\ a /\ a /\ a /\ a /\ a /\ a /\ (((∃ (d : Nat), ∃ (k : Nat), (f, f) = ((d : Int), (k : Int)) /\ pre91 i d k p m /\ ¬grL P71.gd p i d k = []) /\ ((f = f /\ f = f /\ a) /\ e) /\ h /\ a /\ (p = p /\ h) /\ m = m /\ a /\ (a /\ e) /\ a) /\ a /\ a /\ e) /\ a /\ (c = true -> a /\ a /\ (False /\ a) /\ (p = p /\ h) /\ b /\ False) /\ (c = false -> a /\ a /\ a /\ h /\ (p = p /\ h) /\ b /\ grL P71.gd p i g g = P71.coverL p /\ a)) (a /\ a /\ a /\ h)) (a /\ a)) (True)) (grM P71.gd p i g g m = P71.coverM p m)) (!grB P71.gd p i g g)) ((0 : Int))) ((0 : Nat))) ((6 : Nat))) (by kernel_rfl) ?_
 simp only [zz]
 refine ⟨⟨0, 0, rfl, pre6 hp hm, hl⟩, fun h => ?_, fun _ => ⟨rfl, rfl⟩⟩
 simp [hb'] at h
end Go.Am.Bern.P71

/- Bern: pieces that cover a piece; the property is function 64. -/
namespace Go.Am.Bern.P64
open Go Go.Am Go.Proofs Go.Am.Bern
def gd : List PQ -> Bool := fun l => decide (chg l <= 1)
def gdB : Ob := .bx (.clo 64 [] [])
def gN (p : List Int) (m : Memo) : List Ob := [gdB, .bx (.ptr 2 0 []), cvB p 3, mmO m, .bx nl, .bx (clo91 0 1 4 5)]
def gO (p : List Int) (m : Memo) (l : List PQ) : List Ob := [gdB, .bx (.ptr 2 0 []), cvB p 3, mmO m, .bx (.own 6 0), .bx (clo91 0 1 4 5), pieO 0 l]
def gS (v : Nat) (p : List Int) (m : Memo) (l : List PQ) : List Ob := [gdB, .bx (.ptr 2 0 []), cvB p 3, mmO m, .bx (.own 5 v), pieO v l, .bx (clo91 0 1 4 6)]
def aN (q : PQ) : List AV := [ofD FR q, .ptr 0 0 [], .ptr 1 0 [], .ptr 4 0 [], .ptr 5 0 []]
def aS (q : PQ) : List AV := [ofD FR q, .ptr 0 0 [], .ptr 1 0 [], .ptr 4 0 [], .ptr 6 0 []]
def GN (n : Nat) : Prop := ∀ (d k : Nat) (p : List Int) (m : Memo), pre91 n d k p m -> grL gd p n d k = [] -> GCall Tryd.prog gl 91 false (aN ((d : Int), (k : Int))) (gN p m) [.ff] (gN p (grM gd p n d k m))
def GO (n : Nat) : Prop := ∀ (d k : Nat) (p : List Int) (m : Memo), pre91 n d k p m -> grL gd p n d k ≠ [] -> GCall Tryd.prog gl 91 false (aN ((d : Int), (k : Int))) (gN p m) [.bool (grB gd p n d k)] (gO p (grM gd p n d k m) (grL gd p n d k))
def GS (n : Nat) : Prop := ∀ (d k : Nat) (p : List Int) (m : Memo) (l : List PQ), pre91 n d k p m -> l.length + (grL gd p n d k).length < 1000000 ->
 GCall Tryd.prog gl 91 false (aS ((d : Int), (k : Int))) (gS 0 p m l) [.bool (grB gd p n d k)] (gS 1 p (grM gd p n d k m) (l ++ grL gd p n d k))
def get91N (xs : List AV) (obs : List Ob) : Option (PQ × List Int × Memo) :=
 match xs with
 | x :: _ => (match toD FR x, unCvB (obs.getD 2 .gone), unMm (obs.getD 3 .gone), isNl (obs.getD 4 .gone) with
   | some q, some p, some m, true => some (q, p, m)
   | _, _, _, _ => none)
 | _ => none
def get91S (xs : List AV) (obs : List Ob) : Option (PQ × List Int × Memo × List PQ) :=
 match xs with
 | x :: _ => (match toD FR x, unCvB (obs.getD 2 .gone), unMm (obs.getD 3 .gone), unPie (obs.getD 5 .gone) with
   | some q, some p, some m, some l => some (q, p, m, l)
   | _, _, _, _ => none)
 | _ => none
theorem en91 : Enters Tryd.prog 91 := ⟨Tryd.f91, by kernel_rfl, by kernel_rfl, by kernel_rfl⟩
def e91N (n : Nat) (h : GN n) : Entry Tryd.prog gl := entryW 91 en91 true get91N (fun x => ∃ d k : Nat, x.1 = ((d : Int), (k : Int)) /\ pre91 n d k x.2.1 x.2.2 /\ grL gd x.2.1 n d k = []) false (fun x => aN x.1) (fun x => gN x.2.1 x.2.2) (fun _ => [.ff])
 (fun x => gN x.2.1 (grM gd x.2.1 n x.1.1.toNat x.1.2.toNat x.2.2)) (by
   rintro ⟨q, p, m⟩ ⟨d, k, hq, h1, h2⟩
   simp only at hq; subst hq
   exact h d k p m h1 h2)
def e91O (n : Nat) (h : GO n) : Entry Tryd.prog gl := entryW 91 en91 true get91N (fun x => ∃ d k : Nat, x.1 = ((d : Int), (k : Int)) /\ pre91 n d k x.2.1 x.2.2 /\ grL gd x.2.1 n d k ≠ []) false (fun x => aN x.1) (fun x => gN x.2.1 x.2.2) (fun x => [.bool (grB gd x.2.1 n x.1.1.toNat x.1.2.toNat)])
 (fun x => gO x.2.1 (grM gd x.2.1 n x.1.1.toNat x.1.2.toNat x.2.2) (grL gd x.2.1 n x.1.1.toNat x.1.2.toNat)) (by
   rintro ⟨q, p, m⟩ ⟨d, k, hq, h1, h2⟩
   simp only at hq; subst hq
   exact h d k p m h1 h2)
def e91S (n : Nat) (h : GS n) : Entry Tryd.prog gl := entryW 91 en91 true get91S (fun x => ∃ d k : Nat, x.1 = ((d : Int), (k : Int)) /\ pre91 n d k x.2.1 x.2.2.1 /\ x.2.2.2.length + (grL gd x.2.1 n d k).length < 1000000) false (fun x => aS x.1) (fun x => gS 0 x.2.1 x.2.2.1 x.2.2.2) (fun x => [.bool (grB gd x.2.1 n x.1.1.toNat x.1.2.toNat)])
 (fun x => gS 1 x.2.1 (grM gd x.2.1 n x.1.1.toNat x.1.2.toNat x.2.2.1) (x.2.2.2 ++ grL gd x.2.1 n x.1.1.toNat x.1.2.toNat)) (by
   rintro ⟨q, p, m, l⟩ ⟨d, k, hq, h1, h2⟩
   simp only at hq; subst hq
   exact h d k p m l h1 h2)
noncomputable def yN (s : LoopState) (j : Option Code) (p : List Int) (m : Memo) (b : AV) : List Ob := [.lp C91 s j (rc91 1 7), .bx (clo91 2 3 6 1), gdB, .bx (.ptr 4 0 []), cvB p 5, mmO m, .bx nl, .bx b]
noncomputable def yO (s : LoopState) (j : Option Code) (p : List Int) (m : Memo) (l : List PQ) (b : AV) : List Ob := [.lp C91 s j (rc91 1 7), .bx (clo91 2 3 6 1), gdB, .bx (.ptr 4 0 []), cvB p 5, mmO m, .bx (.own 8 0), .bx b, pieO 0 l]
noncomputable def yS (v : Nat) (s : LoopState) (j : Option Code) (p : List Int) (m : Memo) (l : List PQ) (b : AV) : List Ob := [.lp C91 s j (rc91 1 8), .bx (clo91 2 3 6 1), gdB, .bx (.ptr 4 0 []), cvB p 5, mmO m, .bx (.own 7 v), pieO v l, .bx b]
def aY (i : Int) (q : PQ) : List AV := [.yld 0, .int .i64 i, ofD FR q]
def YN (n : Nat) : Prop := ∀ (i : Int) (d k : Nat) (p : List Int) (m : Memo), pre91 n d k p m -> grL gd p n d k = [] -> GYield Tryd.prog gl false (aY i ((d : Int), (k : Int))) (yN .ready none p m .ff) [.ff] (yN .done (some (.exit 0)) p (grM gd p n d k m) .ff)
def YO (n : Nat) : Prop := ∀ (i : Int) (d k : Nat) (p : List Int) (m : Memo), pre91 n d k p m -> grL gd p n d k ≠ [] ->
 GYield Tryd.prog gl false (aY i ((d : Int), (k : Int))) (yN .ready none p m .ff) [.bool (grB gd p n d k && !odd k)] (yO (yst (grB gd p n d k) (odd k)) (yjp (grB gd p n d k) (odd k)) p (grM gd p n d k m) (grL gd p n d k) (.bool (grB gd p n d k && odd k)))
def YS (n : Nat) : Prop := ∀ (i : Int) (d k : Nat) (p : List Int) (m : Memo) (l : List PQ), pre91 n d k p m -> l.length + (grL gd p n d k).length < 1000000 ->
 GYield Tryd.prog gl false (aY i ((d : Int), (k : Int))) (yS 0 .ready none p m l .ff) [.bool (grB gd p n d k && !odd k)] (yS 1 (yst (grB gd p n d k) (odd k)) (yjp (grB gd p n d k) (odd k)) p (grM gd p n d k m) (l ++ grL gd p n d k) (.bool (grB gd p n d k && odd k)))
theorem yN_of (n : Nat) (h : GN n) : YN n := by
 intro i d k p m hp hl
 refine gyield_of (X := Xy [e91N n h] [] (some 0) 8 (fun _ => none)) (Xy_ok _ _ _ _ _) (C := C91) (j := none) (vs := [.ptr 1 0 [], .ptr 7 0 []]) (xs := [.int .i64 i, ofD FR ((d : Int), (k : Int))]) (view := false) (by kernel_rfl) (by kernel_rfl) (by kernel_rfl) (H := fun _ => none) 90 90 ?_
 refine of_eq (q := (fun (a : Prop) => (fun (c : Prop) => (fun (b : Prop) => a /\ a /\ a /\ a /\ (((∃ (d_1 : Nat), ∃ (k_1 : Nat), ((d : Int), (k : Int)) = ((d_1 : Int), (k_1 : Int)) /\ pre91 n d_1 k_1 p m /\ grL P64.gd p n d_1 k_1 = []) /\ (((d : Int) = (d : Int) /\ (k : Int) = (k : Int) /\ a) /\ b) /\ c /\ a /\ (p = p /\ c) /\ m = m /\ a /\ (a /\ b) /\ a) /\ a /\ a /\ b) /\ a /\ (false = false /\ a) /\ (C91 = C91 /\ LoopState.done = LoopState.done /\ some (Code.exit (0 : Nat)) = some (Code.exit (0 : Nat)) /\ (a /\ c) /\ a) /\ (a /\ b) /\ c /\ a /\ (p = p /\ c) /\ grM P64.gd p n d k m = grM P64.gd p n d k m /\ a /\ false = false /\ a) (a /\ a /\ a /\ c)) (a /\ a)) (True)) (by kernel_rfl) ?_
 simp only [zz]
 exact ⟨d, k, rfl, hp, hl⟩
theorem yO_of (n : Nat) (h : GO n) : YO n := by
 intro i d k p m hp hl
 refine gyield_of (X := Xy [e91O n h] [] (some 0) 8 (fun _ => none)) (Xy_ok _ _ _ _ _) (C := C91) (j := none) (vs := [.ptr 1 0 [], .ptr 7 0 []]) (xs := [.int .i64 i, ofD FR ((d : Int), (k : Int))]) (view := false) (by kernel_rfl) (by kernel_rfl) (by kernel_rfl) (H := fun _ => none) 90 90 ?_
 refine of_eq (q := (fun (j : Int) => (fun (g : List PQ) => (fun (f : Memo) => (fun (e : Bool) => (fun (c : Prop) => (fun (i : Prop) => (fun (l : Prop) => (fun (h : Prop) => (fun (a : Bool) => (fun (o : Prop) => (fun (b : Prop) => c /\ c /\ c /\ c /\ (((∃ (d_1 : Nat), ∃ (k : Nat), ((d : Int), j) = ((d_1 : Int), (k : Int)) /\ pre91 n d_1 k p m /\ ¬grL P64.gd p n d_1 k = []) /\ (((d : Int) = (d : Int) /\ j = j /\ c) /\ h) /\ i /\ c /\ (p = p /\ i) /\ m = m /\ c /\ (c /\ h) /\ c) /\ c /\ c /\ h) /\ c /\ ((!a) = true -> o /\ (C91 = C91 /\ yst a e = LoopState.done /\ yjp a e = some (Code.exit (0 : Nat)) /\ l) /\ b) /\ ((!a) = false -> c /\ c /\ ¬(2 : Int) = 0 /\ c /\ (j.tmod (2 : Int) = 1 -> c /\ o /\ (C91 = C91 /\ yst a e = LoopState.done /\ yjp a e = some Code.ret /\ l) /\ (c /\ h) /\ i /\ c /\ (p = p /\ i) /\ f = f /\ c /\ true = (a && e) /\ g = g /\ c) /\ (¬j.tmod (2 : Int) = 1 -> (true = (a && !e) /\ c) /\ (C91 = C91 /\ yst a e = LoopState.ready /\ yjp a e = none /\ l) /\ b))) ((c /\ h) /\ i /\ c /\ (p = p /\ i) /\ f = f /\ c /\ false = (a && e) /\ g = g /\ c)) (false = (a && !e) /\ c)) (grB P64.gd p n d k)) (c /\ c /\ c /\ i)) ((c /\ i) /\ c)) (c /\ c)) (True)) (odd k)) (grM P64.gd p n d k m)) (grL P64.gd p n d k)) ((k : Int))) (by kernel_rfl) ?_
 simp only [zz]
 refine ⟨⟨d, k, rfl, hp, hl⟩, fun hb => ?_, fun hb => ⟨by omega, fun ho => ?_, fun ho => ?_⟩⟩
 · have hb' : grB gd p n d k = false := by simpa using hb
   rw [hb']; simp [yst, yjp]
 · have hb' : grB gd p n d k = true := by simpa using hb
   rw [hb', (odd_spec k).mp ho]; simp [yst, yjp]
 · have hb' : grB gd p n d k = true := by simpa using hb
   have ho' : odd k = false := by simpa [odd_spec] using ho
   rw [hb', ho']; simp [yst, yjp]
theorem yS_of (n : Nat) (h : GS n) : YS n := by
 intro i d k p m l hp hl
 refine gyield_of (X := Xb [e91S n h] [] (some 0) 9 [7] (fun _ => none)) (Xb_ok _ _ _ _ _ _) (C := C91) (j := none) (vs := [.ptr 1 0 [], .ptr 8 0 []]) (xs := [.int .i64 i, ofD FR ((d : Int), (k : Int))]) (view := false) (by kernel_rfl) (by kernel_rfl) (by kernel_rfl) (H := fun _ => none) 90 90 ?_
 refine of_eq (q := (fun (j : Int) => (fun (g : Memo) => (fun (f : List PQ) => (fun (e : Bool) => (fun (c : Prop) => (fun (i : Prop) => (fun (o : Prop) => (fun (h : Prop) => (fun (a : Bool) => (fun (q : Prop) => (fun (b : Prop) => c /\ c /\ c /\ c /\ (((∃ (d_1 : Nat), ∃ (k : Nat), ((d : Int), j) = ((d_1 : Int), (k : Int)) /\ pre91 n d_1 k p m /\ l.length + (grL P64.gd p n d_1 k).length < 1000000) /\ (((d : Int) = (d : Int) /\ j = j /\ c) /\ h) /\ i /\ c /\ (p = p /\ i) /\ m = m /\ c /\ l = l /\ (c /\ h) /\ c) /\ c /\ c /\ c /\ h) /\ c /\ ((!a) = true -> q /\ (C91 = C91 /\ yst a e = LoopState.done /\ yjp a e = some (Code.exit (0 : Nat)) /\ o) /\ b) /\ ((!a) = false -> c /\ c /\ ¬(2 : Int) = 0 /\ c /\ (j.tmod (2 : Int) = 1 -> c /\ q /\ (C91 = C91 /\ yst a e = LoopState.done /\ yjp a e = some Code.ret /\ o) /\ (c /\ h) /\ i /\ c /\ (p = p /\ i) /\ g = g /\ c /\ f = f /\ true = (a && e) /\ c) /\ (¬j.tmod (2 : Int) = 1 -> (true = (a && !e) /\ c) /\ (C91 = C91 /\ yst a e = LoopState.ready /\ yjp a e = none /\ o) /\ b))) ((c /\ h) /\ i /\ c /\ (p = p /\ i) /\ g = g /\ c /\ f = f /\ false = (a && e) /\ c)) (false = (a && !e) /\ c)) (grB P64.gd p n d k)) (c /\ c /\ c /\ i)) ((c /\ i) /\ c)) (c /\ c)) (True)) (odd k)) (l ++ grL P64.gd p n d k)) (grM P64.gd p n d k m)) ((k : Int))) (by kernel_rfl) ?_
 simp only [zz]
 refine ⟨⟨d, k, rfl, hp, hl⟩, fun hb => ?_, fun hb => ⟨by omega, fun ho => ?_, fun ho => ?_⟩⟩
 · have hb' : grB gd p n d k = false := by simpa using hb
   rw [hb']; simp [yst, yjp]
 · have hb' : grB gd p n d k = true := by simpa using hb
   rw [hb', (odd_spec k).mp ho]; simp [yst, yjp]
 · have hb' : grB gd p n d k = true := by simpa using hb
   have ho' : odd k = false := by simpa [odd_spec] using ho
   rw [hb', ho']; simp [yst, yjp]
def getYN (xs : List AV) (obs : List Ob) : Option (Int × PQ × List Int × Memo) :=
 match xs with
 | [_, i, x] => (match toInt .i64 i, toD FR x, unCvB (obs.getD 4 .gone), unMm (obs.getD 5 .gone), isNl (obs.getD 6 .gone) with
   | some i, some q, some p, some m, true => some (i, q, p, m)
   | _, _, _, _, _ => none)
 | _ => none
def getYS (xs : List AV) (obs : List Ob) : Option (Int × PQ × List Int × Memo × List PQ) :=
 match xs with
 | [_, i, x] => (match toInt .i64 i, toD FR x, unCvB (obs.getD 4 .gone), unMm (obs.getD 5 .gone), unPie (obs.getD 7 .gone) with
   | some i, some q, some p, some m, some l => some (i, q, p, m, l)
   | _, _, _, _, _ => none)
 | _ => none
noncomputable def EYN (n : Nat) (h : YN n) : YEntry Tryd.prog gl := yentryW getYN (fun x => ∃ d k : Nat, x.2.1 = ((d : Int), (k : Int)) /\ pre91 n d k x.2.2.1 x.2.2.2 /\ grL gd x.2.2.1 n d k = []) false (fun x => aY x.1 x.2.1) (fun x => yN .ready none x.2.2.1 x.2.2.2 .ff) (fun _ => [.ff])
 (fun x => yN .done (some (.exit 0)) x.2.2.1 (grM gd x.2.2.1 n x.2.1.1.toNat x.2.1.2.toNat x.2.2.2) .ff) (by
   rintro ⟨i, q, p, m⟩ ⟨d, k, hq, h1, h2⟩
   simp only at hq; subst hq
   exact h i d k p m h1 h2)
noncomputable def EYO (n : Nat) (h : YO n) : YEntry Tryd.prog gl := yentryW getYN (fun x => ∃ d k : Nat, x.2.1 = ((d : Int), (k : Int)) /\ pre91 n d k x.2.2.1 x.2.2.2 /\ grL gd x.2.2.1 n d k ≠ []) false (fun x => aY x.1 x.2.1) (fun x => yN .ready none x.2.2.1 x.2.2.2 .ff)
 (fun x => [.bool (grB gd x.2.2.1 n x.2.1.1.toNat x.2.1.2.toNat && !odd x.2.1.2.toNat)])
 (fun x => yO (yst (grB gd x.2.2.1 n x.2.1.1.toNat x.2.1.2.toNat) (odd x.2.1.2.toNat)) (yjp (grB gd x.2.2.1 n x.2.1.1.toNat x.2.1.2.toNat) (odd x.2.1.2.toNat)) x.2.2.1 (grM gd x.2.2.1 n x.2.1.1.toNat x.2.1.2.toNat x.2.2.2) (grL gd x.2.2.1 n x.2.1.1.toNat x.2.1.2.toNat) (.bool (grB gd x.2.2.1 n x.2.1.1.toNat x.2.1.2.toNat && odd x.2.1.2.toNat))) (by
   rintro ⟨i, q, p, m⟩ ⟨d, k, hq, h1, h2⟩
   simp only at hq; subst hq
   exact h i d k p m h1 h2)
noncomputable def EYS (n : Nat) (h : YS n) : YEntry Tryd.prog gl := yentryW getYS (fun x => ∃ d k : Nat, x.2.1 = ((d : Int), (k : Int)) /\ pre91 n d k x.2.2.1 x.2.2.2.1 /\ x.2.2.2.2.length + (grL gd x.2.2.1 n d k).length < 1000000) false (fun x => aY x.1 x.2.1) (fun x => yS 0 .ready none x.2.2.1 x.2.2.2.1 x.2.2.2.2 .ff)
 (fun x => [.bool (grB gd x.2.2.1 n x.2.1.1.toNat x.2.1.2.toNat && !odd x.2.1.2.toNat)])
 (fun x => yS 1 (yst (grB gd x.2.2.1 n x.2.1.1.toNat x.2.1.2.toNat) (odd x.2.1.2.toNat)) (yjp (grB gd x.2.2.1 n x.2.1.1.toNat x.2.1.2.toNat) (odd x.2.1.2.toNat)) x.2.2.1 (grM gd x.2.2.1 n x.2.1.1.toNat x.2.1.2.toNat x.2.2.2.1) (x.2.2.2.2 ++ grL gd x.2.2.1 n x.2.1.1.toNat x.2.1.2.toNat) (.bool (grB gd x.2.2.1 n x.2.1.1.toNat x.2.1.2.toNat && odd x.2.1.2.toNat))) (by
   rintro ⟨i, q, p, m, l⟩ ⟨d, k, hq, h1, h2⟩
   simp only at hq; subst hq
   exact h i d k p m l h1 h2)
noncomputable def hN (s : LoopState) (j : Option Code) (p : List Int) (m : Memo) (b : AV) (q : PQ) : List Ob := [.lp C91 s j (rc91 1 7), .bx (clo91 2 3 6 1), gdB, .bx (.ptr 4 0 []), cvB p 5, mmO m, .bx nl, .bx b, bq q]
noncomputable def hO (s : LoopState) (j : Option Code) (p : List Int) (m : Memo) (l : List PQ) (b : AV) (q : PQ) : List Ob := [.lp C91 s j (rc91 1 7), .bx (clo91 2 3 6 1), gdB, .bx (.ptr 4 0 []), cvB p 5, mmO m, .bx (.own 9 0), .bx b, bq q, pieO 0 l]
noncomputable def hS (v : Nat) (s : LoopState) (j : Option Code) (p : List Int) (m : Memo) (l : List PQ) (b : AV) (q : PQ) : List Ob := [.lp C91 s j (rc91 1 8), .bx (clo91 2 3 6 1), gdB, .bx (.ptr 4 0 []), cvB p 5, mmO m, .bx (.own 7 v), pieO v l, .bx b, bq q]
def HN (n : Nat) : Prop := ∀ (d k : Nat) (p : List Int) (m : Memo), pre91 (n + 1) d k p m -> hvL gd p n d k = [] ->
 GCall Tryd.prog gl 97 false [.yld 0, .ptr 8 0 []] (hN .ready none p m .ff ((d : Int), (k : Int))) [] (hN .done (some (.exit 0)) p (hvM gd p n d k m) .ff ((d : Int), (k : Int)))
def HO (n : Nat) : Prop := ∀ (d k : Nat) (p : List Int) (m : Memo), pre91 (n + 1) d k p m -> hvL gd p n d k ≠ [] -> (hvL gd p n d k).length < 1000000 ->
 GCall Tryd.prog gl 97 false [.yld 0, .ptr 8 0 []] (hN .ready none p m .ff ((d : Int), (k : Int))) [] (hO .done (jR (hvB gd p n d k)) p (hvM gd p n d k m) (hvL gd p n d k) (.bool (hvB gd p n d k)) ((d : Int), (k : Int)))
def HS (n : Nat) : Prop := ∀ (d k : Nat) (p : List Int) (m : Memo) (l : List PQ), pre91 (n + 1) d k p m -> l.length + (hvL gd p n d k).length < 1000000 ->
 GCall Tryd.prog gl 97 false [.yld 0, .ptr 9 0 []] (hS 0 .ready none p m l .ff ((d : Int), (k : Int))) [] (hS 1 .done (jR (hvB gd p n d k)) p (hvM gd p n d k m) (l ++ hvL gd p n d k) (.bool (hvB gd p n d k)) ((d : Int), (k : Int)))
def s97 (x i : Nat) (obs : List Ob) : St := ⟨.yld 0 :: .ptr x 0 [] :: .dead :: .dead :: .int .i64 i :: dd 16, obs⟩
noncomputable def L97_0 : Code := lp (bodyOf Tryd.f97) 0
def ex97 : List (List Nat × Ex) := []
noncomputable def fm97N (p : List Int) (m : Memo) (d k : Nat) : List Fam := [⟨Unit, fun _ => True, fun _ => s97 8 0 (hN .ready none p m .ff ((d : Int), (k : Int))), fun _ => 2, fun _ _ => none⟩]
noncomputable def H97N (p : List Int) (m : Memo) (d k : Nat) : Nat -> Option Hint := fun _ => some ⟨chks 9 [0, 1, 4] (fm97N p m d k), ex97.map (·.2)⟩
theorem loop97N (n : Nat) (h : YN n) (p : List Int) (m : Memo) (d k : Nat) (hp : pre91 (n + 1) d k p m) (hl : grL gd p n (d + 1) (2 * k) = []) : LoopOK (Xy [] [EYN n h] none 9 (fun _ => none)) L97_0 ⟨chks 9 [0, 1, 4] (fm97N p m d k), ex97.map (·.2)⟩
   (RetR (Xy [] [EYN n h] none 9 (fun _ => none)) false false [] [] (hN .done (some (.exit 0)) p (grM gd p n (d + 1) (2 * k) m) .ff ((d : Int), (k : Int)))) := by
 refine loop_fams (Xy_ok _ _ _ _ _) [0, 1, 4] (fm97N p m d k) ex97 90 ⟨fun _ _ => ?_, trivial⟩
 refine of_eq (q := (fun (g : Int) => (fun (c : Int) => (fun (b : Int) => (fun (a : Prop) => (fun (f : Prop) => (fun (e : Prop) => a /\ (g < 2 -> a /\ a /\ a /\ a /\ a /\ a /\ inR .i64 c /\ a /\ a /\ inR .i64 ((2 : Int) * (k : Int)) /\ a /\ inR .i64 b /\ a /\ (((∃ (d : Nat), ∃ (k : Nat), (c, b) = ((d : Int), (k : Int)) /\ pre91 n d k p m /\ grL P64.gd p n d k = []) /\ (a /\ g = g /\ (c = c /\ b = b /\ a) /\ a) /\ (C91 = C91 /\ LoopState.ready = LoopState.ready /\ (none : Option Code) = none /\ (a /\ f) /\ a) /\ e /\ f /\ a /\ (p = p /\ f) /\ m = m /\ a /\ false = false /\ a) /\ a /\ a /\ a /\ e) /\ a /\ a /\ a /\ (C91 = C91 /\ LoopState.done = LoopState.done /\ some (Code.exit (0 : Nat)) = some (Code.exit (0 : Nat)) /\ (a /\ f) /\ a) /\ e /\ f /\ a /\ (p = p /\ f) /\ grM P64.gd p n (d + 1) b.toNat m = grM P64.gd p n (d + 1) ((2 : Nat) * k) m /\ a /\ false = false /\ ((d : Int) = (d : Int) /\ (k : Int) = (k : Int) /\ a) /\ a) /\ (¬g < 2 -> False)) (a /\ a /\ a /\ a /\ f)) (a /\ a)) (True)) ((2 : Int) * (k : Int) + g)) ((d : Int) + 1)) ((0 : Int))) (by kernel_rfl) ?_
 simp only [zz]
 have hb := pre_lt hp
 refine ⟨fun _ => ⟨by simp only [inR]; omega, by simp only [inR]; omega, by simp only [inR]; omega, ⟨d + 1, 2 * k, by simp, pre_left hp, hl⟩, ?_⟩, by omega⟩
 rw [tn0]
theorem hvN {n d k : Nat} {p : List Int} (h : hvL gd p n d k = []) : grL gd p n (d + 1) (2 * k) = [] /\ ∀ m, hvM gd p n d k m = grM gd p n (d + 1) (2 * k) m := by
 unfold hvL at h
 split at h
 · rename_i hb
   exact absurd (List.append_eq_nil_iff.mp h).1 (grL_ne gd p hb)
 · rename_i hb
   exact ⟨h, fun m => by unfold hvM; rw [if_neg hb]⟩
theorem hvO {n d k : Nat} {p : List Int} (h : hvL gd p n d k ≠ []) : grL gd p n (d + 1) (2 * k) ≠ [] := by
 unfold hvL at h
 split at h
 · rename_i hb; exact grL_ne gd p hb
 · exact h
theorem hN_of (n : Nat) (h : YN n) : HN n := by
 intro d k p m hp hl
 obtain ⟨h1, h2⟩ := hvN hl
 rw [h2]
 refine gcall_of (X := (Xy [] [EYN n h] none 9 (fun _ => none))) ((Xy_ok _ _ _ _ _)) (f := 97) (fn := Tryd.f97) (c := bodyOf Tryd.f97) (by kernel_rfl) (by kernel_rfl) (view := false) (rvs := []) (by kernel_rfl) (H := (H97N p m d k)) 80 (by kernel_rfl) ?_
 have hL := loop97N n h p m d k hp h1
 refine of_eq (q := (fun (b : Prop) => (fun (a : Cy) => b /\ LoopOK a P64.L97_0 { J := chks (9 : Nat) [(0 : Nat), (1 : Nat), (4 : Nat)] (P64.fm97N p m d k), exits := List.map (fun (x : List Nat × Ex) => x.snd) P64.ex97 } (RetR a false false [] [] (P64.hN LoopState.done (some (Code.exit (0 : Nat))) p (grM P64.gd p n (d + 1) ((2 : Nat) * k) m) AV.ff ((d : Int), (k : Int)))) /\ (∃ (y : Unit), b /\ (b /\ b /\ (0 : Int) = 0 /\ b) /\ (C91 = C91 /\ LoopState.ready = LoopState.ready /\ (none : Option Code) = none /\ (b /\ b /\ b) /\ b) /\ (b /\ b /\ b /\ b /\ b /\ b) /\ (b /\ b) /\ b /\ (p = p /\ b /\ b) /\ m = m /\ b /\ false = false /\ ((d : Int) = (d : Int) /\ (k : Int) = (k : Int) /\ b) /\ b) /\ b) (Xy [] [P64.EYN n h] none (9 : Nat) fun (x : Nat) => none)) (True)) (by kernel_rfl) ?_
 simp only [zz]
 exact hL
noncomputable def fm97O (p : List Int) (m : Memo) (n d k : Nat) : List Fam := [⟨Unit, fun _ => True, fun _ => s97 8 0 (hN .ready none p m .ff ((d : Int), (k : Int))), fun _ => 2, fun _ _ => none⟩,
 ⟨Unit, fun _ => grB gd p n (d + 1) (2 * k) = true, fun _ => s97 8 1 (hO .ready none p (grM gd p n (d + 1) (2 * k) m) (grL gd p n (d + 1) (2 * k)) .ff ((d : Int), (k : Int))), fun _ => 1, fun _ _ => none⟩]
noncomputable def H97O (p : List Int) (m : Memo) (n d k : Nat) : Nat -> Option Hint := fun _ => some ⟨chks 9 [0, 1, 4] (fm97O p m n d k), ex97.map (·.2)⟩
theorem loop97O (n : Nat) (h : YO n) (h' : YS n) (p : List Int) (m : Memo) (d k : Nat) (hp : pre91 (n + 1) d k p m) (hl : hvL gd p n d k ≠ []) (hz : (hvL gd p n d k).length < 1000000) : LoopOK (Xy [] [EYO n h, EYS n h'] none 9 (fun _ => none)) L97_0 ⟨chks 9 [0, 1, 4] (fm97O p m n d k), ex97.map (·.2)⟩
   (RetR (Xy [] [EYO n h, EYS n h'] none 9 (fun _ => none)) false false [] [] (hO .done (jR (hvB gd p n d k)) p (hvM gd p n d k m) (hvL gd p n d k) (.bool (hvB gd p n d k)) ((d : Int), (k : Int)))) := by
 refine loop_fams (Xy_ok _ _ _ _ _) [0, 1, 4] (fm97O p m n d k) ex97 90 ⟨fun _ _ => ?_, fun _ hb1 => ?_, trivial⟩
 · refine of_eq (q := (fun (u : Int) => (fun (s : Int) => (fun (r : Nat) => (fun (o : Int) => (fun (j : Nat) => (fun (f : Int) => (fun (c : Prop) => (fun (l : Prop) => (fun (v : Prop) => (fun (t : Prop) => (fun (i : Prop) => (fun (g : Prop) => (fun (a : Nat) => (fun (q : Memo) => (fun (h : Bool) => (fun (b : Bool) => (fun (e : Prop) => c /\ (s < 2 -> c /\ c /\ c /\ c /\ c /\ c /\ inR .i64 o /\ c /\ c /\ inR .i64 ((2 : Int) * (k : Int)) /\ c /\ inR .i64 f /\ c /\ (((∃ (d : Nat), ∃ (k : Nat), (o, f) = ((d : Int), (k : Int)) /\ pre91 n d k p m /\ ¬grL P64.gd p n d k = []) /\ (c /\ s = s /\ (o = o /\ f = f /\ c) /\ c) /\ (C91 = C91 /\ LoopState.ready = LoopState.ready /\ (none : Option Code) = none /\ v) /\ i /\ l /\ c /\ t /\ m = m /\ c /\ false = false /\ c) /\ c /\ c /\ c /\ i) /\ c /\ ((!(b && !h)) = true -> c /\ c /\ (C91 = C91 /\ LoopState.done = yst b h /\ jR (hvB P64.gd p n d k) = yjp b h /\ v) /\ i /\ l /\ c /\ t /\ q = hvM P64.gd p n d k m /\ c /\ (b && h) = hvB P64.gd p n d k /\ g /\ grL P64.gd p n j a = hvL P64.gd p n d k /\ c) /\ ((!(b && !h)) = false -> inR .i64 u /\ c /\ ((∃ (y : Unit), (c /\ r < r) /\ (c /\ c /\ u = s /\ c) /\ e /\ i /\ l /\ c /\ t /\ q = m /\ False /\ (b && h) = false /\ g /\ c) ∨ ∃ (y : Unit), (grB P64.gd p n j (r * k) = true /\ (1 : Nat) < r) /\ (c /\ c /\ u = u /\ c) /\ e /\ i /\ l /\ c /\ t /\ q = grM P64.gd p n j (r * k) m /\ c /\ (b && h) = false /\ g /\ grL P64.gd p n j a = grL P64.gd p n j (r * k) /\ c))) /\ (¬s < 2 -> False)) (C91 = C91 /\ LoopState.ready = yst b h /\ (none : Option Code) = yjp b h /\ v)) (grB P64.gd p n j a)) (odd a)) (grM P64.gd p n j a m)) (f.toNat)) ((d : Int) = (d : Int) /\ (k : Int) = (k : Int) /\ c)) (c /\ c /\ c /\ c /\ l)) (p = p /\ l)) ((c /\ l) /\ c)) (c /\ c)) (True)) ((2 : Int) * (k : Int) + s)) (d + 1)) ((d : Int) + u)) ((2 : Nat))) ((0 : Int))) ((1 : Int))) (by kernel_rfl) ?_
   simp only [zz]
   have hb := pre_lt hp
   rw [tn0, odd0]
   refine ⟨fun _ => ⟨by simp only [inR]; omega, by simp only [inR]; omega, by simp only [inR]; omega, ⟨d + 1, 2 * k, by simp, pre_left hp, hvO hl⟩, fun hg => ?_, fun hg => ?_⟩, by omega⟩
   · have hg : grB gd p n (d + 1) (2 * k) = false := by simpa using hg
     simp [hvB, hvM, hvL, hg, yst, yjp, jR]
   · have hg : grB gd p n (d + 1) (2 * k) = true := by simpa using hg
     simp only [hg]
     exact ⟨by simp only [inR]; omega, ⟨trivial, by omega⟩, by simp [yst, yjp]⟩
 · have hb1 : grB gd p n (d + 1) (2 * k) = true := hb1
   refine of_eq (q := (fun (u : Int) => (fun (t : Int) => (fun (r : Int) => (fun (o : Nat) => (fun (h : Int) => (fun (f : Prop) => (fun (q : Prop) => (fun (w : Prop) => (fun (v : Prop) => (fun (l : Prop) => (fun (i : Prop) => (fun (e : List PQ) => (fun (c : Memo) => (fun (a : Nat) => (fun (s : Memo) => (fun (j : Bool) => (fun (b : Bool) => (fun (g : Prop) => f /\ (t < u -> f /\ f /\ f /\ f /\ f /\ f /\ inR .i64 r /\ f /\ f /\ inR .i64 (u * (k : Int)) /\ f /\ inR .i64 h /\ f /\ (((∃ (d : Nat), ∃ (k : Nat), (r, h) = ((d : Int), (k : Int)) /\ pre91 n d k p c /\ e.length + (grL P64.gd p n d k).length < 1000000) /\ (f /\ t = t /\ (r = r /\ h = h /\ f) /\ f) /\ (C91 = C91 /\ LoopState.ready = LoopState.ready /\ (none : Option Code) = none /\ w) /\ l /\ q /\ f /\ v /\ c = c /\ f /\ e = e /\ false = false /\ f) /\ f /\ f /\ f /\ f /\ l) /\ f /\ ((!(b && !j)) = true -> f /\ f /\ (C91 = C91 /\ LoopState.done = yst b j /\ jR (hvB P64.gd p n d k) = yjp b j /\ w) /\ l /\ q /\ f /\ v /\ s = hvM P64.gd p n d k m /\ f /\ (b && j) = hvB P64.gd p n d k /\ i /\ e ++ grL P64.gd p n o a = hvL P64.gd p n d k /\ f) /\ ((!(b && !j)) = false -> inR .i64 u /\ f /\ ((∃ (y : Unit), (f /\ (2 : Nat) < 1) /\ (f /\ f /\ u = 0 /\ f) /\ g /\ l /\ q /\ f /\ v /\ s = m /\ False /\ (b && j) = false /\ i /\ f) ∨ ∃ (y : Unit), (grB P64.gd p n o ((2 : Nat) * k) = true /\ (1 : Nat) < 1) /\ (f /\ f /\ u = t /\ f) /\ g /\ l /\ q /\ f /\ v /\ s = c /\ f /\ (b && j) = false /\ i /\ e ++ grL P64.gd p n o a = e /\ f))) /\ (¬t < u -> False)) (C91 = C91 /\ LoopState.ready = yst b j /\ (none : Option Code) = yjp b j /\ w)) (grB P64.gd p n o a)) (odd a)) (grM P64.gd p n o a c)) (h.toNat)) (grM P64.gd p n o ((2 : Nat) * k) m)) (grL P64.gd p n o ((2 : Nat) * k))) ((d : Int) = (d : Int) /\ (k : Int) = (k : Int) /\ f)) (f /\ f /\ f /\ f /\ q)) (p = p /\ q)) ((f /\ q) /\ f)) (f /\ f)) (True)) (u * (k : Int) + t)) (d + 1)) ((d : Int) + t)) ((1 : Int))) ((2 : Int))) (by kernel_rfl) ?_
   simp only [zz]
   have hb := pre_lt hp
   rw [tn1, odd1]
   have e1 : hvL gd p n d k = grL gd p n (d + 1) (2 * k) ++ grL gd p n (d + 1) (2 * k + 1) := by unfold hvL; rw [if_pos hb1]
   have e2 : hvM gd p n d k m = grM gd p n (d + 1) (2 * k + 1) (grM gd p n (d + 1) (2 * k) m) := by unfold hvM; rw [if_pos hb1]
   have e3 : hvB gd p n d k = grB gd p n (d + 1) (2 * k + 1) := by unfold hvB; rw [hb1]; try rfl
   rw [e1, e2, e3]
   rw [e1, List.length_append] at hz
   refine ⟨fun _ => ⟨by simp only [inR]; omega, by simp only [inR]; omega, by simp only [inR]; omega, ⟨d + 1, 2 * k + 1, by simp, pre_memo (pre_right hp) (grM_ok gd p hp.2.2.2), hz⟩, fun _ => ?_, fun hg => ?_⟩, by omega⟩
   · cases grB gd p n (d + 1) (2 * k + 1) <;> simp [yst, yjp, jR]
   · simp at hg
theorem hO_of (n : Nat) (h : YO n) (h' : YS n) : HO n := by
 intro d k p m hp hl hz
 refine gcall_of (X := (Xy [] [EYO n h, EYS n h'] none 9 (fun _ => none))) ((Xy_ok _ _ _ _ _)) (f := 97) (fn := Tryd.f97) (c := bodyOf Tryd.f97) (by kernel_rfl) (by kernel_rfl) (view := false) (rvs := []) (by kernel_rfl) (H := (H97O p m n d k)) 80 (by kernel_rfl) ?_
 have hL := loop97O n h h' p m d k hp hl hz
 refine of_eq (q := (fun (c : Cy) => (fun (b : Prop) => (fun (f : Prop) => (fun (e : Prop) => (fun (a : Prop) => b /\ LoopOK c P64.L97_0 { J := chks (9 : Nat) [(0 : Nat), (1 : Nat), (4 : Nat)] (P64.fm97O p m n d k), exits := List.map (fun (x : List Nat × Ex) => x.snd) P64.ex97 } (RetR c false false [] [] (P64.hO LoopState.done (jR (hvB P64.gd p n d k)) p (hvM P64.gd p n d k m) (hvL P64.gd p n d k) (AV.bool (hvB P64.gd p n d k)) ((d : Int), (k : Int)))) /\ ((∃ (y : Unit), b /\ (b /\ b /\ (0 : Int) = 0 /\ b) /\ a /\ (b /\ b /\ b /\ b /\ f) /\ f /\ b /\ (p = p /\ f) /\ m = m /\ b /\ false = false /\ e /\ b) ∨ ∃ (y : Unit), grB P64.gd p n (d + 1) ((2 : Nat) * k) = true /\ (b /\ b /\ (0 : Int) = 1 /\ b) /\ a /\ (b /\ b /\ b /\ b /\ f) /\ f /\ b /\ (p = p /\ f) /\ m = grM P64.gd p n (d + 1) ((2 : Nat) * k) m /\ False /\ false = false /\ e /\ False) /\ b) (C91 = C91 /\ LoopState.ready = LoopState.ready /\ (none : Option Code) = none /\ (b /\ f) /\ b)) ((d : Int) = (d : Int) /\ (k : Int) = (k : Int) /\ b)) (b /\ b)) (True)) (Xy [] [P64.EYO n h, P64.EYS n h'] none (9 : Nat) fun (x : Nat) => none)) (by kernel_rfl) ?_
 simp only [zz]
 exact hL
noncomputable def fm97S (p : List Int) (m : Memo) (l : List PQ) (n d k : Nat) : List Fam := [⟨Unit, fun _ => True, fun _ => s97 9 0 (hS 0 .ready none p m l .ff ((d : Int), (k : Int))), fun _ => 2, fun _ _ => none⟩,
 ⟨Unit, fun _ => grB gd p n (d + 1) (2 * k) = true, fun _ => s97 9 1 (hS 1 .ready none p (grM gd p n (d + 1) (2 * k) m) (l ++ grL gd p n (d + 1) (2 * k)) .ff ((d : Int), (k : Int))), fun _ => 1, fun _ _ => none⟩]
noncomputable def H97S (p : List Int) (m : Memo) (l : List PQ) (n d k : Nat) : Nat -> Option Hint := fun _ => some ⟨chks 10 [0, 1, 4] (fm97S p m l n d k), ex97.map (·.2)⟩
theorem loop97S (n : Nat) (h' : YS n) (p : List Int) (m : Memo) (l : List PQ) (d k : Nat) (hp : pre91 (n + 1) d k p m) (hz : l.length + (hvL gd p n d k).length < 1000000) : LoopOK (Xb [] [EYS n h'] none 10 [7] (fun _ => none)) L97_0 ⟨chks 10 [0, 1, 4] (fm97S p m l n d k), ex97.map (·.2)⟩
   (RetR (Xb [] [EYS n h'] none 10 [7] (fun _ => none)) false false [] [] (hS 1 .done (jR (hvB gd p n d k)) p (hvM gd p n d k m) (l ++ hvL gd p n d k) (.bool (hvB gd p n d k)) ((d : Int), (k : Int)))) := by
 have hle : (grL gd p n (d + 1) (2 * k)).length <= (hvL gd p n d k).length := by
   unfold hvL; split
   · simp
   · exact Nat.le_refl _
 refine loop_fams (Xb_ok _ _ _ _ _ _) [0, 1, 4] (fm97S p m l n d k) ex97 90 ⟨fun _ _ => ?_, fun _ hb1 => ?_, trivial⟩
 · refine of_eq (q := (fun (v : Int) => (fun (t : Int) => (fun (s : Nat) => (fun (q : Int) => (fun (j : Nat) => (fun (g : Int) => (fun (c : Prop) => (fun (o : Prop) => (fun (w : Prop) => (fun (u : Prop) => (fun (i : Prop) => (fun (f : Prop) => (fun (a : Nat) => (fun (r : Memo) => (fun (h : Bool) => (fun (b : Bool) => (fun (e : Prop) => c /\ (t < 2 -> c /\ c /\ c /\ c /\ c /\ c /\ inR .i64 q /\ c /\ c /\ inR .i64 ((2 : Int) * (k : Int)) /\ c /\ inR .i64 g /\ c /\ (((∃ (d : Nat), ∃ (k : Nat), (q, g) = ((d : Int), (k : Int)) /\ pre91 n d k p m /\ l.length + (grL P64.gd p n d k).length < 1000000) /\ (c /\ t = t /\ (q = q /\ g = g /\ c) /\ c) /\ (C91 = C91 /\ LoopState.ready = LoopState.ready /\ (none : Option Code) = none /\ w) /\ i /\ o /\ c /\ u /\ m = m /\ c /\ l = l /\ false = false /\ c) /\ c /\ c /\ c /\ c /\ i) /\ c /\ ((!(b && !h)) = true -> c /\ c /\ (C91 = C91 /\ LoopState.done = yst b h /\ jR (hvB P64.gd p n d k) = yjp b h /\ w) /\ i /\ o /\ c /\ u /\ r = hvM P64.gd p n d k m /\ c /\ l ++ grL P64.gd p n j a = l ++ hvL P64.gd p n d k /\ (b && h) = hvB P64.gd p n d k /\ f) /\ ((!(b && !h)) = false -> inR .i64 v /\ c /\ ((∃ (y : Unit), (c /\ s < s) /\ (c /\ c /\ v = t /\ c) /\ e /\ i /\ o /\ c /\ u /\ r = m /\ False /\ False /\ (b && h) = false /\ f) ∨ ∃ (y : Unit), (grB P64.gd p n j (s * k) = true /\ (1 : Nat) < s) /\ (c /\ c /\ v = v /\ c) /\ e /\ i /\ o /\ c /\ u /\ r = grM P64.gd p n j (s * k) m /\ c /\ l ++ grL P64.gd p n j a = l ++ grL P64.gd p n j (s * k) /\ (b && h) = false /\ f))) /\ (¬t < 2 -> False)) (C91 = C91 /\ LoopState.ready = yst b h /\ (none : Option Code) = yjp b h /\ w)) (grB P64.gd p n j a)) (odd a)) (grM P64.gd p n j a m)) (g.toNat)) (((d : Int) = (d : Int) /\ (k : Int) = (k : Int) /\ c) /\ c)) (c /\ c /\ c /\ c /\ o)) (p = p /\ o)) ((c /\ o) /\ c)) (c /\ c)) (True)) ((2 : Int) * (k : Int) + t)) (d + 1)) ((d : Int) + v)) ((2 : Nat))) ((0 : Int))) ((1 : Int))) (by kernel_rfl) ?_
   simp only [zz]
   have hb := pre_lt hp
   rw [tn0, odd0]
   refine ⟨fun _ => ⟨by simp only [inR]; omega, by simp only [inR]; omega, by simp only [inR]; omega, ⟨d + 1, 2 * k, by simp, pre_left hp, by omega⟩, fun hg => ?_, fun hg => ?_⟩, by omega⟩
   · have hg : grB gd p n (d + 1) (2 * k) = false := by simpa using hg
     simp [hvB, hvM, hvL, hg, yst, yjp, jR]
   · have hg : grB gd p n (d + 1) (2 * k) = true := by simpa using hg
     simp only [hg]
     exact ⟨by simp only [inR]; omega, ⟨trivial, by omega⟩, by simp [yst, yjp]⟩
 · have hb1 : grB gd p n (d + 1) (2 * k) = true := hb1
   refine of_eq (q := (fun (v : Int) => (fun (u : Int) => (fun (s : Int) => (fun (q : Nat) => (fun (i : Int) => (fun (f : Prop) => (fun (r : Prop) => (fun (x : Prop) => (fun (w : Prop) => (fun (o : Prop) => (fun (h : Prop) => (fun (e : List PQ) => (fun (c : Memo) => (fun (a : Nat) => (fun (t : Memo) => (fun (j : Bool) => (fun (b : Bool) => (fun (g : Prop) => f /\ (u < v -> f /\ f /\ f /\ f /\ f /\ f /\ inR .i64 s /\ f /\ f /\ inR .i64 (v * (k : Int)) /\ f /\ inR .i64 i /\ f /\ (((∃ (d : Nat), ∃ (k : Nat), (s, i) = ((d : Int), (k : Int)) /\ pre91 n d k p c /\ e.length + (grL P64.gd p n d k).length < 1000000) /\ (f /\ u = u /\ (s = s /\ i = i /\ f) /\ f) /\ (C91 = C91 /\ LoopState.ready = LoopState.ready /\ (none : Option Code) = none /\ x) /\ o /\ r /\ f /\ w /\ c = c /\ f /\ e = e /\ false = false /\ f) /\ f /\ f /\ f /\ f /\ o) /\ f /\ ((!(b && !j)) = true -> f /\ f /\ (C91 = C91 /\ LoopState.done = yst b j /\ jR (hvB P64.gd p n d k) = yjp b j /\ x) /\ o /\ r /\ f /\ w /\ t = hvM P64.gd p n d k m /\ f /\ e ++ grL P64.gd p n q a = l ++ hvL P64.gd p n d k /\ (b && j) = hvB P64.gd p n d k /\ h) /\ ((!(b && !j)) = false -> inR .i64 v /\ f /\ ((∃ (y : Unit), (f /\ (2 : Nat) < 1) /\ (f /\ f /\ v = 0 /\ f) /\ g /\ o /\ r /\ f /\ w /\ t = m /\ False /\ False /\ (b && j) = false /\ h) ∨ ∃ (y : Unit), (grB P64.gd p n q ((2 : Nat) * k) = true /\ (1 : Nat) < 1) /\ (f /\ f /\ v = u /\ f) /\ g /\ o /\ r /\ f /\ w /\ t = c /\ f /\ e ++ grL P64.gd p n q a = e /\ (b && j) = false /\ h))) /\ (¬u < v -> False)) (C91 = C91 /\ LoopState.ready = yst b j /\ (none : Option Code) = yjp b j /\ x)) (grB P64.gd p n q a)) (odd a)) (grM P64.gd p n q a c)) (i.toNat)) (grM P64.gd p n q ((2 : Nat) * k) m)) (l ++ grL P64.gd p n q ((2 : Nat) * k))) (((d : Int) = (d : Int) /\ (k : Int) = (k : Int) /\ f) /\ f)) (f /\ f /\ f /\ f /\ r)) (p = p /\ r)) ((f /\ r) /\ f)) (f /\ f)) (True)) (v * (k : Int) + u)) (d + 1)) ((d : Int) + u)) ((1 : Int))) ((2 : Int))) (by kernel_rfl) ?_
   simp only [zz]
   have hb := pre_lt hp
   rw [tn1, odd1]
   have e1 : hvL gd p n d k = grL gd p n (d + 1) (2 * k) ++ grL gd p n (d + 1) (2 * k + 1) := by unfold hvL; rw [if_pos hb1]
   have e2 : hvM gd p n d k m = grM gd p n (d + 1) (2 * k + 1) (grM gd p n (d + 1) (2 * k) m) := by unfold hvM; rw [if_pos hb1]
   have e3 : hvB gd p n d k = grB gd p n (d + 1) (2 * k + 1) := by unfold hvB; rw [hb1]; try rfl
   rw [e1, e2, e3]
   rw [e1, List.length_append] at hz
   refine ⟨fun _ => ⟨by simp only [inR]; omega, by simp only [inR]; omega, by simp only [inR]; omega, ⟨d + 1, 2 * k + 1, by simp, pre_memo (pre_right hp) (grM_ok gd p hp.2.2.2), by rw [List.length_append]; omega⟩, fun _ => ?_, fun hg => ?_⟩, by omega⟩
   · cases grB gd p n (d + 1) (2 * k + 1) <;> simp [yst, yjp, jR]
   · simp at hg
theorem hS_of (n : Nat) (h' : YS n) : HS n := by
 intro d k p m l hp hz
 refine gcall_of (X := (Xb [] [EYS n h'] none 10 [7] (fun _ => none))) ((Xb_ok _ _ _ _ _ _)) (f := 97) (fn := Tryd.f97) (c := bodyOf Tryd.f97) (by kernel_rfl) (by kernel_rfl) (view := false) (rvs := []) (by kernel_rfl) (H := (H97S p m l n d k)) 80 (by kernel_rfl) ?_
 have hL := loop97S n h' p m l d k hp hz
 refine of_eq (q := (fun (c : Cy) => (fun (b : Prop) => (fun (f : Prop) => (fun (e : Prop) => (fun (a : Prop) => b /\ LoopOK c P64.L97_0 { J := chks (10 : Nat) [(0 : Nat), (1 : Nat), (4 : Nat)] (P64.fm97S p m l n d k), exits := List.map (fun (x : List Nat × Ex) => x.snd) P64.ex97 } (RetR c false false [] [] (P64.hS (1 : Nat) LoopState.done (jR (hvB P64.gd p n d k)) p (hvM P64.gd p n d k m) (l ++ hvL P64.gd p n d k) (AV.bool (hvB P64.gd p n d k)) ((d : Int), (k : Int)))) /\ ((∃ (y : Unit), b /\ (b /\ b /\ (0 : Int) = 0 /\ b) /\ a /\ (b /\ b /\ b /\ b /\ f) /\ f /\ b /\ (p = p /\ f) /\ m = m /\ b /\ l = l /\ e) ∨ ∃ (y : Unit), grB P64.gd p n (d + 1) ((2 : Nat) * k) = true /\ (b /\ b /\ (0 : Int) = 1 /\ b) /\ a /\ (b /\ b /\ b /\ b /\ f) /\ f /\ b /\ (p = p /\ f) /\ m = grM P64.gd p n (d + 1) ((2 : Nat) * k) m /\ False /\ False /\ e) /\ b) (C91 = C91 /\ LoopState.ready = LoopState.ready /\ (none : Option Code) = none /\ (b /\ f) /\ b)) (false = false /\ ((d : Int) = (d : Int) /\ (k : Int) = (k : Int) /\ b) /\ b)) (b /\ b)) (True)) (Xb [] [P64.EYS n h'] none (10 : Nat) [(7 : Nat)] fun (x : Nat) => none)) (by kernel_rfl) ?_
 simp only [zz]
 exact hL
def unBq : Ob -> Option PQ
 | .bx c => toD FR c
 | _ => none
def get97N (_ : List AV) (obs : List Ob) : Option (PQ × List Int × Memo) :=
 match unCvB (obs.getD 4 .gone), unMm (obs.getD 5 .gone), isNl (obs.getD 6 .gone), unBq (obs.getD 8 .gone) with
 | some p, some m, true, some q => some (q, p, m)
 | _, _, _, _ => none
def get97S (_ : List AV) (obs : List Ob) : Option (PQ × List Int × Memo × List PQ) :=
 match unCvB (obs.getD 4 .gone), unMm (obs.getD 5 .gone), unPie (obs.getD 7 .gone), unBq (obs.getD 9 .gone) with
 | some p, some m, some l, some q => some (q, p, m, l)
 | _, _, _, _ => none
theorem en97 : Enters Tryd.prog 97 := ⟨Tryd.f97, by kernel_rfl, by kernel_rfl, by kernel_rfl⟩
noncomputable def e97N (n : Nat) (h : HN n) : Entry Tryd.prog gl := entryW 97 en97 true get97N (fun x => ∃ d k : Nat, x.1 = ((d : Int), (k : Int)) /\ pre91 (n + 1) d k x.2.1 x.2.2 /\ hvL gd x.2.1 n d k = []) false (fun _ => [.yld 0, .ptr 8 0 []]) (fun x => hN .ready none x.2.1 x.2.2 .ff x.1) (fun _ => [])
 (fun x => hN .done (some (.exit 0)) x.2.1 (hvM gd x.2.1 n x.1.1.toNat x.1.2.toNat x.2.2) .ff x.1) (by
   rintro ⟨q, p, m⟩ ⟨d, k, hq, h1, h2⟩
   simp only at hq; subst hq
   exact h d k p m h1 h2)
noncomputable def e97O (n : Nat) (h : HO n) : Entry Tryd.prog gl := entryW 97 en97 true get97N (fun x => ∃ d k : Nat, x.1 = ((d : Int), (k : Int)) /\ pre91 (n + 1) d k x.2.1 x.2.2 /\ hvL gd x.2.1 n d k ≠ [] /\ (hvL gd x.2.1 n d k).length < 1000000) false (fun _ => [.yld 0, .ptr 8 0 []]) (fun x => hN .ready none x.2.1 x.2.2 .ff x.1) (fun _ => [])
 (fun x => hO .done (jR (hvB gd x.2.1 n x.1.1.toNat x.1.2.toNat)) x.2.1 (hvM gd x.2.1 n x.1.1.toNat x.1.2.toNat x.2.2) (hvL gd x.2.1 n x.1.1.toNat x.1.2.toNat) (.bool (hvB gd x.2.1 n x.1.1.toNat x.1.2.toNat)) x.1) (by
   rintro ⟨q, p, m⟩ ⟨d, k, hq, h1, h2, h3⟩
   simp only at hq; subst hq
   exact h d k p m h1 h2 h3)
noncomputable def e97S (n : Nat) (h : HS n) : Entry Tryd.prog gl := entryW 97 en97 true get97S (fun x => ∃ d k : Nat, x.1 = ((d : Int), (k : Int)) /\ pre91 (n + 1) d k x.2.1 x.2.2.1 /\ x.2.2.2.length + (hvL gd x.2.1 n d k).length < 1000000) false (fun _ => [.yld 0, .ptr 9 0 []]) (fun x => hS 0 .ready none x.2.1 x.2.2.1 x.2.2.2 .ff x.1) (fun _ => [])
 (fun x => hS 1 .done (jR (hvB gd x.2.1 n x.1.1.toNat x.1.2.toNat)) x.2.1 (hvM gd x.2.1 n x.1.1.toNat x.1.2.toNat x.2.2.1) (x.2.2.2 ++ hvL gd x.2.1 n x.1.1.toNat x.1.2.toNat) (.bool (hvB gd x.2.1 n x.1.1.toNat x.1.2.toNat)) x.1) (by
   rintro ⟨q, p, m, l⟩ ⟨d, k, hq, h1, h2⟩
   simp only at hq; subst hq
   exact h d k p m l h1 h2)
noncomputable def E91 : EL := [e69, e64, e92]
theorem gN0 : GN 0 := by
 intro d k p m hp hl
 have h0 := pre_lt hp
 have hpc := piece_of hp
 have hln := qc_length p d k
 have hpl := hp.1.2.1
 have hd6 := hp.2.1
 refine gcall_of (X := (Xy E91 [] none 6 (drOf [(1, 4005)]))) ((Xy_ok _ _ _ _ _)) (f := 91) (fn := Tryd.f91) (c := bodyOf Tryd.f91) (by kernel_rfl) (by kernel_rfl) (view := false) (rvs := [.cell 6 4]) (by kernel_rfl) (H := fun _ => none) 80 (by kernel_rfl) ?_
 refine of_eq (q := (fun (f : Int) => (fun (c : Bool) => (fun (b : Prop) => (fun (a : Prop) => (fun (e : Prop) => (fun (g : Prop) => a /\ a /\ a /\ true = true /\ a /\ true = true /\ a /\ true = true /\ ((isPoly p /\ isPiece (f, (k : Int)) /\ f < 7 /\ memoOk p m) /\ a /\ e) /\ ((a /\ AV.clo (64 : FuncId) [] [] = AV.clo (64 : FuncId) [] []) /\ a) /\ (qc p d k).length + 1 <= 1000000 /\ a /\ (c = true -> a /\ a /\ a /\ sumPre (0 : Nat) [(f, (k : Int))].length (nat_lit 16) /\ a /\ a /\ e /\ (true = false /\ a) /\ e /\ a /\ (p = p /\ e) /\ b /\ False /\ g) /\ (c = false -> a /\ a /\ a /\ (f = 6 -> a /\ e /\ (false = false /\ a) /\ e /\ a /\ (p = p /\ e) /\ b /\ a /\ g) /\ (¬f = 6 -> a /\ e /\ False))) ((a /\ a /\ a /\ a /\ e) /\ a)) (a /\ a)) (True)) (cm p d k m = grM P64.gd p (0 : Nat) d k m)) (decide (chg (qc p d k) <= 1))) ((d : Int))) (by kernel_rfl) ?_
 simp only [zz]
 refine ⟨⟨hp.1, hpc, by omega, hp.2.2.2⟩, by omega, fun h => ?_, fun h => ⟨fun _ => rfl, fun h6 => by omega⟩⟩
 have h : gd (qc p d k) = true := h
 unfold grL at hl
 rw [if_pos h] at hl
 cases hl
theorem gO0 : GO 0 := by
 intro d k p m hp hl
 have h0 := pre_lt hp
 have hpc := piece_of hp
 have hln := qc_length p d k
 have hpl := hp.1.2.1
 have hd6 := hp.2.1
 refine gcall_of (X := (Xy E91 [] none 6 (drOf [(1, 4005)]))) ((Xy_ok _ _ _ _ _)) (f := 91) (fn := Tryd.f91) (c := bodyOf Tryd.f91) (by kernel_rfl) (by kernel_rfl) (view := false) (rvs := [.cell 6 4]) (by kernel_rfl) (H := fun _ => none) 80 (by kernel_rfl) ?_
 refine of_eq (q := (fun (g : Nat) => (fun (f : Int) => (fun (c : Bool) => (fun (b : Prop) => (fun (a : Prop) => (fun (e : Prop) => a /\ a /\ a /\ true = true /\ a /\ true = true /\ a /\ true = true /\ ((isPoly p /\ isPiece (f, (k : Int)) /\ f < 7 /\ memoOk p m) /\ a /\ e) /\ ((a /\ AV.clo (64 : FuncId) [] [] = AV.clo (64 : FuncId) [] []) /\ a) /\ (qc p d k).length + 1 <= 1000000 /\ a /\ (c = true -> a /\ a /\ a /\ sumPre g [(f, (k : Int))].length (nat_lit 16) /\ a /\ a /\ e /\ (true = grB P64.gd p g d k /\ a) /\ e /\ a /\ (p = p /\ e) /\ b /\ a /\ (a /\ a /\ a /\ a /\ e) /\ [(f, (k : Int))] = grL P64.gd p g d k /\ a) /\ (c = false -> a /\ a /\ a /\ (f = 6 -> a /\ e /\ (false = grB P64.gd p g d k /\ a) /\ e /\ a /\ (p = p /\ e) /\ b /\ False /\ (a /\ a /\ a /\ a /\ e) /\ False) /\ (¬f = 6 -> a /\ e /\ False))) (a /\ a)) (True)) (cm p d k m = grM P64.gd p g d k m)) (decide (chg (qc p d k) <= 1))) ((d : Int))) ((0 : Nat))) (by kernel_rfl) ?_
 simp only [zz]
 refine ⟨⟨hp.1, hpc, by omega, hp.2.2.2⟩, by omega, fun h => ?_, fun h => ⟨fun _ => ?_, fun h6 => by omega⟩⟩
 · have h : gd (qc p d k) = true := h
   refine ⟨by unfold sumPre; simp, h.symm, rfl, ?_⟩
   unfold grL; rw [if_pos h]
 · have h : gd (qc p d k) = false := h
   unfold grL at hl
   rw [if_neg (by simp [h])] at hl
   exact hl rfl
theorem gS0 : GS 0 := by
 intro d k p m l hp hl
 have h0 := pre_lt hp
 have hpc := piece_of hp
 have hln := qc_length p d k
 have hpl := hp.1.2.1
 have hd6 := hp.2.1
 refine gcall_of (X := (Xb E91 [] none 7 [5] (drOf [(1, 4005)]))) ((Xb_ok _ _ _ _ _ _)) (f := 91) (fn := Tryd.f91) (c := bodyOf Tryd.f91) (by kernel_rfl) (by kernel_rfl) (view := false) (rvs := [.cell 6 4]) (by kernel_rfl) (H := fun _ => none) 80 (by kernel_rfl) ?_
 refine of_eq (q := (fun (g : List PQ) => (fun (f : Int) => (fun (c : Bool) => (fun (b : Prop) => (fun (a : Prop) => (fun (e : Prop) => (fun (h : Prop) => a /\ a /\ a /\ true = true /\ a /\ true = true /\ a /\ true = true /\ ((isPoly p /\ isPiece (f, (k : Int)) /\ f < 7 /\ memoOk p m) /\ a /\ e) /\ ((a /\ AV.clo (64 : FuncId) [] [] = AV.clo (64 : FuncId) [] []) /\ a) /\ (qc p d k).length + 1 <= 1000000 /\ a /\ (c = true -> a /\ a /\ a /\ sumPre l.length [(f, (k : Int))].length (nat_lit 16) /\ a /\ a /\ e /\ (true = grB P64.gd p (0 : Nat) d k /\ a) /\ e /\ a /\ (p = p /\ e) /\ b /\ a /\ l ++ [(f, (k : Int))] = g /\ h) /\ (c = false -> a /\ a /\ a /\ (f = 6 -> a /\ e /\ (false = grB P64.gd p (0 : Nat) d k /\ a) /\ e /\ a /\ (p = p /\ e) /\ b /\ a /\ l = g /\ h) /\ (¬f = 6 -> a /\ e /\ False))) ((a /\ a /\ a /\ a /\ e) /\ a)) (a /\ a)) (True)) (cm p d k m = grM P64.gd p (0 : Nat) d k m)) (decide (chg (qc p d k) <= 1))) ((d : Int))) (l ++ grL P64.gd p (0 : Nat) d k)) (by kernel_rfl) ?_
 simp only [zz]
 refine ⟨⟨hp.1, hpc, by omega, hp.2.2.2⟩, by omega, fun h => ?_, fun h => ⟨fun _ => ?_, fun h6 => by omega⟩⟩
 · have h : gd (qc p d k) = true := h
   refine ⟨by unfold sumPre; simp; omega, h.symm, rfl, ?_⟩
   unfold grL; rw [if_pos h]; try rfl
 · have h : gd (qc p d k) = false := h
   refine ⟨h.symm, rfl, ?_⟩
   unfold grL; rw [if_neg (by simp [h])]; simp
theorem gN1 (n : Nat) (h : HN n) : GN (n + 1) := by
 intro d k p m hp hl
 have h0 := pre_lt hp
 have hpc := piece_of hp
 have hln := qc_length p d k
 have hpl := hp.1.2.1
 have hd6 := hp.2.1
 refine gcall_of (X := (Xy (e97N n h :: E91) [] none 6 (drOf [(1, 4005)]))) ((Xy_ok _ _ _ _ _)) (f := 91) (fn := Tryd.f91) (c := bodyOf Tryd.f91) (by kernel_rfl) (by kernel_rfl) (view := false) (rvs := [.cell 6 4]) (by kernel_rfl) (H := fun _ => none) 80 (by kernel_rfl) ?_
 refine of_eq (q := (fun (o : Prop) => (fun (l : Int) => (fun (j : Bool) => (fun (i : Int) => (fun (h : Memo) => (fun (f : Memo) => (fun (c : Option Code) => (fun (b : Prop) => (fun (e : Prop) => (fun (q : Prop) => (fun (g : Prop) => (fun (a : Prop) => b /\ b /\ b /\ true = true /\ b /\ true = true /\ b /\ true = true /\ ((isPoly p /\ isPiece (i, l) /\ i < 7 /\ memoOk p m) /\ b /\ e) /\ ((b /\ AV.clo (64 : FuncId) [] [] = AV.clo (64 : FuncId) [] []) /\ b) /\ (qc p d k).length + 1 <= 1000000 /\ b /\ (j = true -> b /\ b /\ b /\ sumPre (0 : Nat) [(i, l)].length (nat_lit 16) /\ b /\ b /\ e /\ (true = false /\ b) /\ e /\ b /\ q /\ h = f /\ False /\ g /\ b) /\ (j = false -> b /\ b /\ b /\ (i = 6 -> b /\ e /\ (o /\ b) /\ e /\ b /\ q /\ h = f /\ b /\ g /\ b) /\ (¬i = 6 -> b /\ e /\ ((((∃ (d : Nat), ∃ (k : Nat), (i, l) = ((d : Int), (k : Int)) /\ pre91 (n + 1) d k p h /\ hvL P64.gd p n d k = []) /\ (b /\ e) /\ (C91 = C91 /\ LoopState.ready = LoopState.ready /\ (none : Option Code) = none /\ (b /\ e) /\ b) /\ g /\ e /\ b /\ q /\ h = h /\ b /\ o /\ (i = i /\ l = l /\ b) /\ b) /\ b /\ b /\ b /\ b /\ g) /\ ¬LoopState.done = LoopState.busy) /\ (c = none -> b /\ a) /\ (c = c ∨ c = some Code.ret ∨ c = none) /\ (c = c -> b /\ a) /\ (c = some Code.ret -> a) /\ b))) (e /\ (o /\ b) /\ e /\ b /\ q /\ hvM P64.gd p n d k h = f /\ b /\ g /\ b)) (b /\ b /\ b /\ b /\ e)) (p = p /\ e)) (b /\ b)) (True)) (some (Code.exit (0 : Nat)))) (grM P64.gd p (n + 1) d k m)) (cm p d k m)) ((d : Int))) (decide (chg (qc p d k) <= 1))) ((k : Int))) (false = false)) (by kernel_rfl) ?_
 simp only [zz]
 have hg : gd (qc p d k) = false := by
   cases hg : gd (qc p d k) with
   | false => rfl
   | true => rw [grL_succ, if_pos hg] at hl; cases hl
 have e : hvM gd p n d k (cm p d k m) = grM gd p (n + 1) d k m := by rw [grM_succ, if_neg (by simp [hg])]
 have e2 : hvL gd p n d k = [] := by rwa [grL_succ, if_neg (by simp [hg])] at hl
 refine ⟨⟨hp.1, hpc, by omega, hp.2.2.2⟩, by omega, fun h => ?_, fun h => ⟨fun _ => by omega, fun h6 => ?_⟩⟩
 · have h : gd (qc p d k) = true := h
   rw [hg] at h; cases h
 · exact ⟨⟨⟨d, k, rfl, pre_memo hp (cm_ok hp.2.2.2), e2⟩, by simp⟩, fun _ => e, .inl trivial, fun _ => e, fun _ => e⟩
theorem gO1 (n : Nat) (h : HO n) : GO (n + 1) := by
 intro d k p m hp hl
 have h0 := pre_lt hp
 have hpc := piece_of hp
 have hln := qc_length p d k
 have hpl := hp.1.2.1
 have hd6 := hp.2.1
 refine gcall_of (X := (Xy (e97O n h :: E91) [] none 6 (drOf [(1, 4005)]))) ((Xy_ok _ _ _ _ _)) (f := 91) (fn := Tryd.f91) (c := bodyOf Tryd.f91) (by kernel_rfl) (by kernel_rfl) (view := false) (rvs := [.cell 6 4]) (by kernel_rfl) (H := fun _ => none) 80 (by kernel_rfl) ?_
 refine of_eq (q := (fun (q : Nat) => (fun (o : Int) => (fun (l : Bool) => (fun (j : Memo) => (fun (i : Int) => (fun (g : Memo) => (fun (e : Bool) => (fun (c : Option Code) => (fun (b : Prop) => (fun (f : Prop) => (fun (s : Prop) => (fun (h : Prop) => (fun (a : Prop) => (fun (r : Prop) => b /\ b /\ b /\ true = true /\ b /\ true = true /\ b /\ true = true /\ ((isPoly p /\ isPiece (i, o) /\ i < 7 /\ memoOk p m) /\ b /\ f) /\ ((b /\ AV.clo (64 : FuncId) [] [] = AV.clo (64 : FuncId) [] []) /\ b) /\ (qc p d k).length + 1 <= 1000000 /\ b /\ (l = true -> b /\ b /\ b /\ sumPre (0 : Nat) [(i, o)].length (nat_lit 16) /\ b /\ b /\ f /\ (true = e /\ b) /\ f /\ b /\ s /\ j = g /\ b /\ h /\ [(i, o)] = grL P64.gd p q d k /\ b) /\ (l = false -> b /\ b /\ b /\ (i = 6 -> b /\ f /\ (false = e /\ b) /\ f /\ b /\ s /\ j = g /\ False /\ h /\ False) /\ (¬i = 6 -> b /\ f /\ ((((∃ (d : Nat), ∃ (k : Nat), (i, o) = ((d : Int), (k : Int)) /\ pre91 q d k p j /\ ¬hvL P64.gd p n d k = [] /\ (hvL P64.gd p n d k).length < 1000000) /\ (b /\ f) /\ (C91 = C91 /\ LoopState.ready = LoopState.ready /\ (none : Option Code) = none /\ (b /\ f) /\ b) /\ h /\ f /\ b /\ s /\ j = j /\ b /\ false = false /\ (i = i /\ o = o /\ b) /\ b) /\ b /\ b /\ b /\ b /\ h) /\ ¬LoopState.done = LoopState.busy) /\ (c = none -> r) /\ (c = some (Code.exit (0 : Nat)) ∨ c = some Code.ret ∨ c = none) /\ (c = some (Code.exit (0 : Nat)) -> r) /\ (c = some Code.ret -> f /\ (hvB P64.gd p n d k = e /\ b) /\ a) /\ b))) (b /\ f /\ (false = e /\ b) /\ a)) (f /\ b /\ s /\ hvM P64.gd p n d k j = g /\ b /\ h /\ hvL P64.gd p n d k = grL P64.gd p q d k /\ b)) (b /\ b /\ b /\ b /\ f)) (p = p /\ f)) (b /\ b)) (True)) (jR (hvB P64.gd p n d k))) (grB P64.gd p q d k)) (grM P64.gd p q d k m)) ((d : Int))) (cm p d k m)) (decide (chg (qc p d k) <= 1))) ((k : Int))) (n + 1)) (by kernel_rfl) ?_
 simp only [zz]
 have hln2 := grL_len gd p (n + 1) d k
 have hn2 := Nat.pow_le_pow_right (show 0 < 2 by omega) (show n + 1 <= 6 by omega)
 refine ⟨⟨hp.1, hpc, by omega, hp.2.2.2⟩, by omega, fun h => ?_, fun h => ⟨fun _ => by omega, fun h6 => ?_⟩⟩
 · have hg : gd (qc p d k) = true := h
   rw [grB_succ, grM_succ, grL_succ, if_pos hg, if_pos hg, hg]
   exact ⟨by unfold sumPre; simp, rfl, rfl, rfl⟩
 · have hg : gd (qc p d k) = false := h
   have hng : ¬ gd (qc p d k) = true := by simp [hg]
   rw [grL_succ, if_neg hng] at hl hln2
   rw [grB_succ, grM_succ, grL_succ, if_neg hng, if_neg hng, hg]
   refine ⟨⟨⟨d, k, rfl, pre_memo hp (cm_ok hp.2.2.2), hl, by omega⟩, by simp⟩, ?_⟩
   cases hvB gd p n d k <;> simp [jR]
theorem gS1 (n : Nat) (h : HS n) : GS (n + 1) := by
 intro d k p m l hp hl
 have h0 := pre_lt hp
 have hpc := piece_of hp
 have hln := qc_length p d k
 have hpl := hp.1.2.1
 have hd6 := hp.2.1
 refine gcall_of (X := (Xb (e97S n h :: E91) [] none 7 [5] (drOf [(1, 4005)]))) ((Xb_ok _ _ _ _ _ _)) (f := 91) (fn := Tryd.f91) (c := bodyOf Tryd.f91) (by kernel_rfl) (by kernel_rfl) (view := false) (rvs := [.cell 6 4]) (by kernel_rfl) (H := fun _ => none) 80 (by kernel_rfl) ?_
 refine of_eq (q := (fun (s : Nat) => (fun (r : Int) => (fun (q : Bool) => (fun (o : Memo) => (fun (j : Int) => (fun (h : Memo) => (fun (g : List PQ) => (fun (e : Bool) => (fun (c : Option Code) => (fun (b : Prop) => (fun (f : Prop) => (fun (u : Prop) => (fun (i : Prop) => (fun (a : Prop) => (fun (t : Prop) => b /\ b /\ b /\ true = true /\ b /\ true = true /\ b /\ true = true /\ ((isPoly p /\ isPiece (j, r) /\ j < 7 /\ memoOk p m) /\ b /\ f) /\ ((b /\ AV.clo (64 : FuncId) [] [] = AV.clo (64 : FuncId) [] []) /\ b) /\ (qc p d k).length + 1 <= 1000000 /\ b /\ (q = true -> b /\ b /\ b /\ sumPre l.length [(j, r)].length (nat_lit 16) /\ b /\ b /\ f /\ (true = e /\ b) /\ f /\ b /\ u /\ o = h /\ b /\ l ++ [(j, r)] = g /\ i /\ b) /\ (q = false -> b /\ b /\ b /\ (j = 6 -> b /\ f /\ (false = e /\ b) /\ f /\ b /\ u /\ o = h /\ b /\ l = g /\ i /\ b) /\ (¬j = 6 -> b /\ f /\ ((((∃ (d : Nat), ∃ (k : Nat), (j, r) = ((d : Int), (k : Int)) /\ pre91 s d k p o /\ l.length + (hvL P64.gd p n d k).length < 1000000) /\ (b /\ f) /\ (C91 = C91 /\ LoopState.ready = LoopState.ready /\ (none : Option Code) = none /\ (b /\ f) /\ b) /\ i /\ f /\ b /\ u /\ o = o /\ b /\ l = l /\ false = false /\ (j = j /\ r = r /\ b) /\ b) /\ b /\ b /\ b /\ b /\ b /\ i) /\ ¬LoopState.done = LoopState.busy) /\ (c = none -> t) /\ (c = some (Code.exit (0 : Nat)) ∨ c = some Code.ret ∨ c = none) /\ (c = some (Code.exit (0 : Nat)) -> t) /\ (c = some Code.ret -> f /\ (hvB P64.gd p n d k = e /\ b) /\ a) /\ b))) (b /\ f /\ (false = e /\ b) /\ a)) (f /\ b /\ u /\ hvM P64.gd p n d k o = h /\ b /\ l ++ hvL P64.gd p n d k = g /\ i /\ b)) (b /\ b /\ b /\ b /\ f)) (p = p /\ f)) (b /\ b)) (True)) (jR (hvB P64.gd p n d k))) (grB P64.gd p s d k)) (l ++ grL P64.gd p s d k)) (grM P64.gd p s d k m)) ((d : Int))) (cm p d k m)) (decide (chg (qc p d k) <= 1))) ((k : Int))) (n + 1)) (by kernel_rfl) ?_
 simp only [zz]
 refine ⟨⟨hp.1, hpc, by omega, hp.2.2.2⟩, by omega, fun h => ?_, fun h => ⟨fun _ => by omega, fun h6 => ?_⟩⟩
 · have hg : gd (qc p d k) = true := h
   rw [grB_succ, grM_succ, grL_succ, if_pos hg, if_pos hg, hg]
   exact ⟨by unfold sumPre; simp; omega, rfl, rfl, rfl⟩
 · have hg : gd (qc p d k) = false := h
   have hng : ¬ gd (qc p d k) = true := by simp [hg]
   rw [grL_succ, if_neg hng] at hl
   rw [grB_succ, grM_succ, grL_succ, if_neg hng, if_neg hng, hg]
   refine ⟨⟨⟨d, k, rfl, pre_memo hp (cm_ok hp.2.2.2), hl⟩, by simp⟩, ?_⟩
   cases hvB gd p n d k <;> simp [jR]
/-- All levels. -/
theorem g_all : ∀ n, GN n /\ GO n /\ GS n
 | 0 => ⟨gN0, gO0, gS0⟩
 | n + 1 => by
   obtain ⟨h1, h2, h3⟩ := g_all n
   exact ⟨gN1 n (hN_of n (yN_of n h1)), gO1 n (hO_of n (yO_of n h2) (yS_of n h3)), gS1 n (hS_of n (yS_of n h3))⟩
noncomputable def e91n : Entry Tryd.prog gl := e91N 6 (g_all 6).1
noncomputable def e91o : Entry Tryd.prog gl := e91O 6 (g_all 6).2.1
def coverB (p : List Int) : Bool := grB gd p 6 0 0
def coverL (p : List Int) : List PQ := grL gd p 6 0 0
def coverM (p : List Int) (m : Memo) : Memo := grM gd p 6 0 0 m
def a63 : List AV := [.ptr 0 0 [], ofD FR ((0 : Int), (0 : Int)), .clo 64 [] []]
def P63N : Prop := ∀ (p : List Int) (m : Memo), isPoly p -> memoOk p m -> coverB p = false -> GCall Tryd.prog gl 63 false a63 [cvO p, mmO m] [nl] [cvO p, mmO (coverM p m)]
def P63O : Prop := ∀ (p : List Int) (m : Memo), isPoly p -> memoOk p m -> coverB p = true -> GCall Tryd.prog gl 63 false a63 [cvO p, mmO m] [.own 2 0] [cvO p, mmO (coverM p m), pieO 0 (coverL p)]
theorem pre6 {p : List Int} {m : Memo} (hp : isPoly p) (hm : memoOk p m) : pre91 6 0 0 p m := ⟨hp, rfl, by omega, hm⟩
theorem call63N : P63N := by
 intro p m hp hm hb
 have hb' : grB gd p 6 0 0 = false := hb
 by_cases hl : grL gd p 6 0 0 = []
 · refine gcall_of (X := (Xy [e91n] [] none 2 (fun _ => none))) ((Xy_ok _ _ _ _ _)) (f := 63) (fn := Tryd.f63) (c := bodyOf Tryd.f63) (by kernel_rfl) (by kernel_rfl) (view := false) (rvs := [.tmp 6]) (by kernel_rfl) (H := fun _ => none) 80 (by kernel_rfl) ?_
   refine of_eq (q := (fun (c : Int) => (fun (a : Prop) => (fun (e : Prop) => (fun (b : Prop) => a /\ a /\ a /\ a /\ a /\ a /\ a /\ a /\ a /\ a /\ (((∃ (d : Nat), ∃ (k : Nat), (c, c) = ((d : Int), (k : Int)) /\ pre91 (6 : Nat) d k p m /\ grL P64.gd p (6 : Nat) d k = []) /\ ((c = c /\ c = c /\ a) /\ b) /\ e /\ a /\ (p = p /\ e) /\ m = m /\ a /\ (a /\ b) /\ a) /\ a /\ a /\ b) /\ a /\ a /\ a /\ e /\ (p = p /\ e) /\ grM P64.gd p (6 : Nat) (0 : Nat) (0 : Nat) m = P64.coverM p m /\ a) (a /\ a /\ a /\ e)) (a /\ a)) (True)) ((0 : Int))) (by kernel_rfl) ?_
   simp only [zz]
   exact ⟨⟨0, 0, rfl, pre6 hp hm, hl⟩, rfl⟩
 · refine gcall_of (X := (Xy [e91o] [] none 2 (fun _ => none))) ((Xy_ok _ _ _ _ _)) (f := 63) (fn := Tryd.f63) (c := bodyOf Tryd.f63) (by kernel_rfl) (by kernel_rfl) (view := false) (rvs := [.tmp 6]) (by kernel_rfl) (H := fun _ => none) 80 (by kernel_rfl) ?_
   refine of_eq (q := (fun (f : Int) => (fun (c : Bool) => (fun (a : Prop) => (fun (g : Prop) => (fun (e : Prop) => (fun (b : Prop) => a /\ a /\ a /\ a /\ a /\ a /\ a /\ a /\ a /\ a /\ (((∃ (d : Nat), ∃ (k : Nat), (f, f) = ((d : Int), (k : Int)) /\ pre91 (6 : Nat) d k p m /\ ¬grL P64.gd p (6 : Nat) d k = []) /\ ((f = f /\ f = f /\ a) /\ e) /\ g /\ a /\ (p = p /\ g) /\ m = m /\ a /\ (a /\ e) /\ a) /\ a /\ a /\ e) /\ a /\ (c = true -> a /\ a /\ g /\ b) /\ (c = false -> a /\ a /\ a /\ (False /\ a) /\ b)) ((p = p /\ g) /\ grM P64.gd p (6 : Nat) (0 : Nat) (0 : Nat) m = P64.coverM p m /\ a)) (a /\ a /\ a /\ g)) (a /\ a)) (True)) (!grB P64.gd p (6 : Nat) (0 : Nat) (0 : Nat))) ((0 : Int))) (by kernel_rfl) ?_
   simp only [zz]
   refine ⟨⟨0, 0, rfl, pre6 hp hm, hl⟩, fun _ => rfl, fun h => ?_⟩
   simp [hb'] at h
theorem call63O : P63O := by
 intro p m hp hm hb
 have hb' : grB gd p 6 0 0 = true := hb
 have hl := grL_ne gd p hb'
 refine gcall_of (X := (Xy [e91o] [] none 2 (fun _ => none))) ((Xy_ok _ _ _ _ _)) (f := 63) (fn := Tryd.f63) (c := bodyOf Tryd.f63) (by kernel_rfl) (by kernel_rfl) (view := false) (rvs := [.tmp 6]) (by kernel_rfl) (H := fun _ => none) 80 (by kernel_rfl) ?_
 refine of_eq (q := (fun (i : Nat) => (fun (g : Nat) => (fun (f : Int) => (fun (c : Bool) => (fun (b : Prop) => (fun (a : Prop) => (fun (h : Prop) => (fun (e : Prop) => a /\ a /\ a /\ a /\ a /\ a /\ a /\ a /\ a /\ a /\ (((∃ (d : Nat), ∃ (k : Nat), (f, f) = ((d : Int), (k : Int)) /\ pre91 i d k p m /\ ¬grL P64.gd p i d k = []) /\ ((f = f /\ f = f /\ a) /\ e) /\ h /\ a /\ (p = p /\ h) /\ m = m /\ a /\ (a /\ e) /\ a) /\ a /\ a /\ e) /\ a /\ (c = true -> a /\ a /\ (False /\ a) /\ (p = p /\ h) /\ b /\ False) /\ (c = false -> a /\ a /\ a /\ h /\ (p = p /\ h) /\ b /\ grL P64.gd p i g g = P64.coverL p /\ a)) (a /\ a /\ a /\ h)) (a /\ a)) (True)) (grM P64.gd p i g g m = P64.coverM p m)) (!grB P64.gd p i g g)) ((0 : Int))) ((0 : Nat))) ((6 : Nat))) (by kernel_rfl) ?_
 simp only [zz]
 refine ⟨⟨0, 0, rfl, pre6 hp hm, hl⟩, fun h => ?_, fun _ => ⟨rfl, rfl⟩⟩
 simp [hb'] at h
end Go.Am.Bern.P64

/- Bern: Positive, Roots, Count. -/
namespace Go.Am.Bern
open Go Go.Am Go.Proofs
def get63 (_ : List AV) (obs : List Ob) : Option (List Int × Memo) :=
 match obs with
 | [c, m] => (match unCv c, unMm m with
   | some p, some m => some (p, m)
   | _, _ => none)
 | _ => none
theorem en63 : Enters Tryd.prog 63 := ⟨Tryd.f63, by kernel_rfl, by kernel_rfl, by kernel_rfl⟩
noncomputable def e63N : Entry Tryd.prog gl := entryW 63 en63 true get63 (fun x => isPoly x.1 /\ memoOk x.1 x.2 /\ P71.coverB x.1 = false) false (fun _ => P71.a63) (fun x => [cvO x.1, mmO x.2]) (fun _ => [nl]) (fun x => [cvO x.1, mmO (P71.coverM x.1 x.2)]) (fun x h => P71.call63N x.1 x.2 h.1 h.2.1 h.2.2)
noncomputable def e63O : Entry Tryd.prog gl := entryW 63 en63 true get63 (fun x => isPoly x.1 /\ memoOk x.1 x.2 /\ P71.coverB x.1 = true) false (fun _ => P71.a63) (fun x => [cvO x.1, mmO x.2]) (fun _ => [.own 2 0]) (fun x => [cvO x.1, mmO (P71.coverM x.1 x.2), pieO 0 (P71.coverL x.1)]) (fun x h => P71.call63O x.1 x.2 h.1 h.2.1 h.2.2)
noncomputable def e63n : Entry Tryd.prog gl := entryW 63 en63 true get63 (fun x => isPoly x.1 /\ memoOk x.1 x.2 /\ P64.coverB x.1 = false) false (fun _ => P64.a63) (fun x => [cvO x.1, mmO x.2]) (fun _ => [nl]) (fun x => [cvO x.1, mmO (P64.coverM x.1 x.2)]) (fun x h => P64.call63N x.1 x.2 h.1 h.2.1 h.2.2)
noncomputable def e63o : Entry Tryd.prog gl := entryW 63 en63 true get63 (fun x => isPoly x.1 /\ memoOk x.1 x.2 /\ P64.coverB x.1 = true) false (fun _ => P64.a63) (fun x => [cvO x.1, mmO x.2]) (fun _ => [.own 2 0]) (fun x => [cvO x.1, mmO (P64.coverM x.1 x.2), pieO 0 (P64.coverL x.1)]) (fun x h => P64.call63O x.1 x.2 h.1 h.2.1 h.2.2)
def posB (p : List Int) : Bool := decide (isPoly p) && P71.coverB p
def posK (p : List Int) : List PQ := if posB p then P71.coverL p else []
theorem errOf_pos {p : List Int} (h : ¬ errOf p = 0) : ¬ isPoly p := fun hp => h (by simp [errOf, hp])
theorem errOf_zero {p : List Int} (h : ¬¬ errOf p = 0) : isPoly p := by
 false_or_by_contra; rename_i hn; exact h (by simp [errOf, hn])
theorem call26 (p : List Int) (h : p.length < 1000000) : GCall Tryd.prog gl 26 false [.sl I64 p] [] [.bool (posB p), .sl Q2 (posK p), .int .i64 (errOf p)] [] := by
 have hlen : (P71.coverL p).length <= 64 := grL_len _ p 6 0 0
 by_cases hb : P71.coverB p = true
 · refine gcall_of (X := (Xd [e56, e62, e66, e63O] (drOf [(4, 1000000)]))) ((Xd_ok _ _)) (f := 26) (fn := Tryd.f26) (c := bodyOf Tryd.f26) (by kernel_rfl) (by kernel_rfl) (view := true) (rvs := [.tmp 2, .tmp 3, .tmp 4]) (by kernel_rfl) (H := fun _ => none) 80 (by kernel_rfl) ?_
   refine of_eq (q := (fun (d : Int) => (fun (c : Int) => (fun (b : Prop) => (fun (e : Prop) => (fun (a : Prop) => (fun (f : Prop) => b /\ b /\ b /\ b /\ (p.length + 1 <= 1000000 /\ b) /\ b /\ b /\ b /\ (¬c = d -> b /\ b /\ b /\ b /\ b /\ (false = posB p /\ ([] : List (Int × Int)) = posK p /\ c = c /\ b) /\ b) /\ (¬¬c = d -> ((b /\ (e /\ (b /\ a) /\ b) /\ f) /\ (b /\ f) /\ b) /\ b /\ b /\ b /\ ((P71.coverL p).length + 1 <= 1000000 /\ b) /\ b /\ b /\ b /\ b /\ (true = posB p /\ P71.coverL p = posK p /\ d = c /\ b) /\ b)) ((b /\ (e /\ a) /\ b) /\ b)) (((((isPoly p /\ memoOk p [] /\ P71.coverB p = true) /\ (b /\ (d = d /\ d = d /\ b) /\ e /\ b) /\ (p = p /\ e) /\ ([] : List ((Int × Int) × List (Int × Int))) = [] /\ b) /\ b /\ e) /\ (b /\ (p = p /\ false = false /\ b /\ d = d /\ c = c /\ b /\ p = p /\ c = c /\ c = c /\ false = false /\ p = p /\ b /\ (d = d /\ d = d /\ b) /\ e) /\ (p = p /\ e) /\ P71.coverM p [] = P71.coverM p [] /\ P71.coverL p = P71.coverL p /\ b) /\ b) /\ b)) (b /\ b)) (True)) (errOf p)) ((0 : Int))) (by kernel_rfl) ?_
   simp only [zz]
   refine ⟨by omega, fun he => ?_, fun he => ?_⟩
   · have := errOf_pos he
     simp [posK, posB, this]
   · have hp := errOf_zero he
     exact ⟨⟨⟨⟨hp, memoOk_nil p, hb⟩, ⟨hp, memoOk_nil p, hb⟩⟩, ⟨hp, memoOk_nil p, hb⟩⟩, by omega, by simp [posB, hp, hb], by simp [posK, posB, hp, hb], by simp [errOf, hp]⟩
 · have hb : P71.coverB p = false := by simpa using hb
   refine gcall_of (X := (Xd [e56, e62, e66, e63N] (drOf [(4, 1000000)]))) ((Xd_ok _ _)) (f := 26) (fn := Tryd.f26) (c := bodyOf Tryd.f26) (by kernel_rfl) (by kernel_rfl) (view := true) (rvs := [.tmp 2, .tmp 3, .tmp 4]) (by kernel_rfl) (H := fun _ => none) 80 (by kernel_rfl) ?_
   refine of_eq (q := (fun (f : Prop) => (fun (d : Int) => (fun (c : Int) => (fun (b : Prop) => (fun (e : Prop) => (fun (a : Prop) => (fun (g : Prop) => b /\ b /\ b /\ b /\ (p.length + 1 <= 1000000 /\ b) /\ b /\ b /\ b /\ (¬c = d -> b /\ b /\ b /\ b /\ b /\ (false = posB p /\ f /\ c = c /\ b) /\ b) /\ (¬¬c = d -> ((b /\ (e /\ (b /\ a) /\ b) /\ g) /\ (b /\ g) /\ b) /\ b /\ b /\ b /\ ((1 : Nat) <= 1000000 /\ b) /\ b /\ b /\ b /\ b /\ (false = posB p /\ f /\ d = c /\ b) /\ b)) ((b /\ (e /\ a) /\ b) /\ b)) (((((isPoly p /\ memoOk p [] /\ P71.coverB p = false) /\ (b /\ (d = d /\ d = d /\ b) /\ e /\ b) /\ (p = p /\ e) /\ ([] : List ((Int × Int) × List (Int × Int))) = [] /\ b) /\ b /\ e) /\ (b /\ (p = p /\ false = false /\ b /\ d = d /\ c = c /\ b /\ p = p /\ c = c /\ c = c /\ false = false /\ p = p /\ b /\ (d = d /\ d = d /\ b) /\ e) /\ (p = p /\ e) /\ P71.coverM p [] = P71.coverM p [] /\ b) /\ b) /\ b)) (b /\ b)) (True)) (errOf p)) ((0 : Int))) (([] : List (Int × Int)) = posK p)) (by kernel_rfl) ?_
   simp only [zz]
   refine ⟨by omega, fun he => ?_, fun he => ?_⟩
   · have := errOf_pos he
     simp [posK, posB, this]
   · have hp := errOf_zero he
     exact ⟨⟨⟨⟨hp, memoOk_nil p, hb⟩, ⟨hp, memoOk_nil p, hb⟩⟩, ⟨hp, memoOk_nil p, hb⟩⟩, by omega, by simp [posB, hp, hb], by simp [posK, posB, hp, hb], by simp [errOf, hp]⟩
def e26 : Entry Tryd.prog gl := entry1 26 ⟨Tryd.f26, by kernel_rfl, by kernel_rfl, by kernel_rfl⟩ SI (fun p => p.length < 1000000) false (fun p => [.bool (posB p), .sl Q2 (posK p), .int .i64 (errOf p)]) (fun _ => []) (call26)
def ob68 (p : List Int) (m : Memo) : List Ob := [.bx (.ptr 1 0 []), cvB p 2, mmO m]
def cgz (p : List Int) (q : PQ) : Bool := decide (chg (qc p q.1.toNat q.2.toNat) = 0)
def cmq (p : List Int) (m : Memo) (q : PQ) : Memo := cm p q.1.toNat q.2.toNat m
theorem call68 (p : List Int) (m : Memo) (q : PQ) (h : pre69 7 p m q) : GCall Tryd.prog gl 68 false [ofD FR q, .ptr 0 0 []] (ob68 p m) [.bool (cgz p q)] (ob68 p (cmq p m q)) := by
 refine gcall_of (X := (Xm [e69, e65] 3 (fun _ => none))) ((Xm_ok _ _ _)) (f := 68) (fn := Tryd.f68) (c := bodyOf Tryd.f68) (by kernel_rfl) (by kernel_rfl) (view := false) (rvs := [.tmp 3]) (by kernel_rfl) (H := fun _ => none) 80 (by kernel_rfl) ?_
 refine of_eq (q := (fun (b : List (Int × Int)) => (fun (a : Prop) => a /\ a /\ a /\ a /\ ((isPoly p /\ isPiece (q.fst, q.snd) /\ q.fst < 7 /\ memoOk p m) /\ a /\ a /\ a) /\ (b.length + 1 <= 1000000 /\ a) /\ a /\ a /\ a /\ (decide ((↑(chg b) : Int) = 0) = cgz p q /\ a) /\ a /\ (p = p /\ a /\ a) /\ cm p (Int.toNat q.fst) (Int.toNat q.snd) m = cmq p m q /\ a) (True)) (qc p (Int.toNat q.fst) (Int.toNat q.snd))) (by kernel_rfl) ?_
 simp only [zz]
 have hln := qc_length p q.1.toNat q.2.toNat
 have := h.1.2.1
 refine ⟨⟨h.1, h.2.1, h.2.2.1, h.2.2.2⟩, by omega, ?_, rfl⟩
 unfold cgz; simp
def get68 (xs : List AV) (obs : List Ob) : Option (PQ × List Int × Memo) :=
 match xs with
 | [x, _] => (match toD FR x, unCvB (obs.getD 1 .gone), unMm (obs.getD 2 .gone) with
   | some q, some p, some m => some (q, p, m)
   | _, _, _ => none)
 | _ => none
theorem en68 : Enters Tryd.prog 68 := ⟨Tryd.f68, by kernel_rfl, by kernel_rfl, by kernel_rfl⟩
def e68 : Entry Tryd.prog gl := entryW 68 en68 true get68 (fun x => pre69 7 x.2.1 x.2.2 x.1) false (fun x => [ofD FR x.1, .ptr 0 0 []]) (fun x => ob68 x.2.1 x.2.2) (fun x => [.bool (cgz x.2.1 x.1)]) (fun x => ob68 x.2.1 (cmq x.2.1 x.2.2 x.1)) (fun x h => call68 x.2.1 x.2.2 x.1 h)
/-- Pieces of a list, one after the other. -/
def cms (p : List Int) (l : List PQ) (m : Memo) : Memo := l.foldl (cmq p) m
def pcs (p : List Int) (l : List PQ) : Prop := isPoly p /\ l.length < 1000000 /\ ∀ q ∈ l, isPiece q
theorem cmq_ok {p : List Int} {m : Memo} {q : PQ} (hm : memoOk p m) : memoOk p (cmq p m q) := cm_ok hm
theorem cms_ok {p : List Int} : ∀ {l : List PQ} {m : Memo}, memoOk p m -> memoOk p (cms p l m)
 | [], m, h => h
 | q :: l, m, h => cms_ok (l := l) (cmq_ok h)
theorem cms_snoc (p : List Int) (l : List PQ) (q : PQ) (m : Memo) : cms p (l ++ [q]) m = cmq p (cms p l m) q := by simp [cms, List.foldl_append]
def zIdx (p : List Int) (l : List PQ) : Nat := l.findIdx (cgz p)
def zIdxR (p : List Int) (l : List PQ) : Int := if ∃ q ∈ l, cgz p q = true then (zIdx p l : Int) else -1
def obD (v : Nat) (l : List PQ) (p : List Int) (m : Memo) : List Ob := [pieO v l, .bx (.ptr 2 0 []), cvB p 3, mmO m]
def clo68 : AV := .clo 68 [] [.ptr 1 0 []]
theorem find_b {f : PQ -> Bool} {l : List PQ} {k : Nat} (hk : k < l.length) (h : ∀ x ∈ l.take k, f x = false) (hx : f (l.getD k (0, 0)) = true) : l.findIdx f = k := by
 induction l generalizing k with
 | nil => simp at hk
 | cons a l ih =>
   cases k with
   | zero => simp at hx; simp [List.findIdx_cons, hx]
   | succ k =>
     have ha : f a = false := h a (by simp)
     rw [List.findIdx_cons, ha]
     simp only [cond_false]
     rw [ih (by simpa using hk) (fun x hx => h x (by simp [hx])) (by simpa using hx)]
theorem find_none {f : PQ -> Bool} : ∀ {l : List PQ}, (∀ x ∈ l, f x = false) -> l.findIdx f = l.length
 | [], _ => rfl
 | a :: l, h => by
   rw [List.findIdx_cons, h a (by simp)]
   simp only [cond_false]
   rw [find_none fun x hx => h x (by simp [hx])]; try rfl
theorem take_memD {l : List PQ} {k : Nat} {P : PQ -> Prop} (hk : k < l.length) (h : ∀ q ∈ l.take k, P q) (hx : P (l.getD k (0, 0))) : ∀ q ∈ l.take (k + 1), P q := by
 rw [take_getD (d := (0, 0)) hk]
 intro q hq
 simp only [List.mem_append, List.mem_singleton] at hq
 rcases hq with hq | hq
 · exact h q hq
 · rw [hq]; exact hx
noncomputable def L93_0 : Code := lp (bodyOf Tryd.f93) 0
def inv93 (p : List Int) (l : List PQ) (k : Nat) : Prop := k <= l.length /\ ∀ q ∈ l.take k, cgz p q = false
def st93 (p : List Int) (l : List PQ) (m : Memo) (k : Nat) : St := ⟨.own 0 0 :: clo68 :: .dead :: .dead :: .dead :: .dead :: .dead :: .int .i64 l.length :: .int .i64 k :: dd 10, obD 0 l p (cms p (l.take k) m)⟩
def ex93 (p : List Int) (l : List PQ) (m : Memo) : List (List Nat × Ex) := [([], ⟨0, Unit, fun _ => ∀ q ∈ l, cgz p q = false, fun _ => ⟨dd 19, obD 0 l p (cms p l m)⟩⟩)]
noncomputable def H93 (p : List Int) (l : List PQ) (m : Memo) : Nat -> Option Hint := fun _ => some ⟨chk 4 [0, 1, 7, 8] (inv93 p l) (st93 p l m), (ex93 p l m).map (·.2)⟩
theorem loop93 (p : List Int) (l : List PQ) (m : Memo) (hp : pcs p l) (hm : memoOk p m) : LoopOK (Xm [e68] 4 (fun _ => none)) L93_0 ⟨chk 4 [0, 1, 7, 8] (inv93 p l) (st93 p l m), (ex93 p l m).map (·.2)⟩
   (RetR (Xm [e68] 4 (fun _ => none)) false false [.tmp 4] [.int .i64 (zIdxR p l)] (obD 0 l p (cms p (l.take (zIdx p l + 1)) m))) := by
 refine loop_ok (Xm_ok _ _ _) (H := fun _ _ => none) [0, 1, 7, 8] (inv93 p l) (st93 p l m) (fun k => l.length - k) (ex93 p l m) 90 fun (k : Nat) hk => ?_
 refine of_eq (q := (fun (e : Int) => (fun (d : Int) => (fun (c : Prop) => (fun (f : Prop) => (fun (b : Memo) => (fun (a : Int × Int) => (fun (g : Int × Int) => c /\ (d < e -> c /\ c /\ c /\ c /\ c /\ idxPre d l.length /\ c /\ ((pre69 (7 : Int) p b g /\ ((a.fst = a.fst /\ a.snd = a.snd /\ c) /\ c /\ c) /\ c /\ f /\ b = b /\ c) /\ c /\ c /\ c /\ c) /\ (cgz p g = true -> c /\ c /\ c /\ (d = zIdxR p l /\ c) /\ l = l /\ c /\ f /\ cmq p b g = cms p (List.take (zIdx p l + 1) l) m /\ c) /\ (cgz p g = false -> inR .i64 (d + 1) /\ c /\ ∃ (y : Nat), (inv93 p l y /\ l.length - y < l.length - k) /\ (c /\ (c /\ c /\ c) /\ e = e /\ d + 1 = (y : Int) /\ c) /\ l = l /\ c /\ f /\ cmq p b g = cms p (List.take y l) m /\ c)) /\ (¬d < e -> ∃ (y : Unit), (∀ (q : PQ), q ∈ l -> cgz p q = false) /\ c /\ l = l /\ c /\ f /\ b = cms p l m /\ c)) ((a.fst, a.snd))) (l.getD k (0, 0))) (cms p (List.take k l) m)) (p = p /\ c /\ c)) (True)) ((k : Int))) ((l.length : Int))) (by kernel_rfl) ?_
 simp only [zz]
 obtain ⟨h1, h2⟩ := hk
 have hz : ∀ k, k < l.length -> l.getD k (0, 0) ∈ l := fun k hk => getD_mem hk
 refine ⟨fun hk => ?_, fun hk => ?_⟩
 · have hk : k < l.length := by omega
   have hmem := hz k hk
   have hpc := hp.2.2 _ hmem
   have hl := hp.2.1
   have e1 : ((l.getD k (0, 0)).1, (l.getD k (0, 0)).2) = l.getD k (0, 0) := rfl
   rw [e1]
   refine ⟨by unfold idxPre; omega, ⟨hp.1, hpc, by have := hpc.2.1; omega, cms_ok hm⟩, fun hx => ?_, fun hx => ⟨by simp only [inR]; omega, k + 1, ⟨⟨by omega, take_memD hk h2 hx⟩, by omega⟩, by omega, ?_⟩⟩
   · have hf := find_b hk h2 hx
     have : ∃ q ∈ l, cgz p q = true := ⟨_, hmem, hx⟩
     refine ⟨by unfold zIdxR; rw [if_pos this]; unfold zIdx; rw [hf], ?_⟩
     unfold zIdx
     rw [hf, take_getD (d := (0, 0)) hk, cms_snoc]
   · rw [take_getD (d := (0, 0)) hk, cms_snoc]
 · have : l.take k = l := List.take_of_length_le (by omega)
   rw [this] at h2
   rw [this]
   exact ⟨h2, rfl⟩
theorem call93 (p : List Int) (l : List PQ) (m : Memo) (hp : pcs p l) (hm : memoOk p m) : GCall Tryd.prog gl 93 false [.own 0 0, clo68] (obD 0 l p m) [.int .i64 (zIdxR p l)] (obD 0 l p (cms p (l.take (zIdx p l + 1)) m)) := by
 refine gcall_of (X := (Xm [e68] 4 (fun _ => none))) ((Xm_ok _ _ _)) (f := 93) (fn := Tryd.f93) (c := bodyOf Tryd.f93) (by kernel_rfl) (by kernel_rfl) (view := false) (rvs := [.tmp 4]) (by kernel_rfl) (H := (H93 p l m)) 80 (by kernel_rfl) ?_
 have hL := loop93 p l m hp hm
 refine of_eq (q := (fun (c : Memo) => (fun (b : Prop) => (fun (a : Cy) => b /\ b /\ b /\ b /\ LoopOK a L93_0 { J := chk (4 : Nat) [(0 : Nat), (1 : Nat), (7 : Nat), (8 : Nat)] (inv93 p l) (st93 p l m), exits := List.map (fun (x : List Nat × Ex) => x.snd) (ex93 p l m) } (RetR a false false [ResultVar.tmp (4 : Tmp)] [AV.int .i64 (zIdxR p l)] (obD (0 : Nat) l p c)) /\ (∃ (y : Nat), inv93 p l y /\ (b /\ (b /\ b /\ b) /\ (l.length : Int) = (l.length : Int) /\ (0 : Int) = (y : Int) /\ b) /\ l = l /\ b /\ (p = p /\ b /\ b) /\ m = cms p (List.take y l) m /\ b) /\ (∀ (y : Unit), (∀ (q : PQ), q ∈ l -> cgz p q = false) -> b /\ b /\ ((-1 : Int) = zIdxR p l /\ b) /\ l = l /\ b /\ (p = p /\ b /\ b) /\ cms p l m = c /\ b) /\ b) (Xm [e68] (4 : Nat) fun (x : Nat) => none)) (True)) (cms p (List.take (zIdx p l + 1) l) m)) (by kernel_rfl) ?_
 simp only [zz]
 refine ⟨hL, ⟨0, ⟨by omega, by simp⟩, rfl, rfl⟩, fun _ h => ⟨?_, ?_⟩⟩
 · unfold zIdxR; rw [if_neg]
   rintro ⟨q, h1, h2⟩
   rw [h q h1] at h2; cases h2
 · have : zIdx p l = l.length := find_none h
   rw [this, List.take_of_length_le (by omega)]
def get93 (xs : List AV) (obs : List Ob) : Option (List Int × List PQ × Memo) :=
 match unCvB (obs.getD 2 .gone), unPie (obs.getD 0 .gone), unMm (obs.getD 3 .gone) with
 | some p, some l, some m => some (p, l, m)
 | _, _, _ => none
theorem en93 : Enters Tryd.prog 93 := ⟨Tryd.f93, by kernel_rfl, by kernel_rfl, by kernel_rfl⟩
def e93 : Entry Tryd.prog gl := entryW 93 en93 true get93 (fun x => pcs x.1 x.2.1 /\ memoOk x.1 x.2.2) false (fun _ => [.own 0 0, clo68]) (fun x => obD 0 x.2.1 x.1 x.2.2) (fun x => [.int .i64 (zIdxR x.1 x.2.1)]) (fun x => obD 0 x.2.1 x.1 (cms x.1 (x.2.1.take (zIdx x.1 x.2.1 + 1)) x.2.2)) (fun x h => call93 x.1 x.2.1 x.2.2 h.1 h.2)
def keep (p : List Int) (l : List PQ) : List PQ := l.filter fun q => !cgz p q
/-- What the list holds when its first j have been looked at. -/
def mid67 (p : List Int) (l : List PQ) (j : Nat) : List PQ := keep p (l.take j) ++ l.drop (keep p (l.take j)).length
def nz67 (p : List Int) (l : List PQ) : List PQ := keep p l ++ List.replicate (l.length - (keep p l).length) (0, 0)
theorem keep_le (p : List Int) (l : List PQ) (j : Nat) : (keep p (l.take j)).length <= j /\ (keep p (l.take j)).length <= l.length := by
 have h1 : (keep p (l.take j)).length <= (l.take j).length := List.length_filter_le ..
 rw [List.length_take] at h1
 omega
theorem mid_length (p : List Int) (l : List PQ) (j : Nat) : (mid67 p l j).length = l.length := by
 have := keep_le p l j
 unfold mid67; rw [List.length_append, List.length_drop]; omega
theorem mid_getD (p : List Int) (l : List PQ) {j : Nat} : (mid67 p l j).getD j (0, 0) = l.getD j (0, 0) := by
 have := keep_le p l j
 unfold mid67
 simp only [List.getD_eq_getElem?_getD]
 rw [List.getElem?_append_right (by omega), List.getElem?_drop, show (keep p (l.take j)).length + (j - (keep p (l.take j)).length) = j by omega]
theorem keep_next (p : List Int) {l : List PQ} {j : Nat} (hj : j < l.length) : keep p (l.take (j + 1)) = if cgz p (l.getD j (0, 0)) then keep p (l.take j) else keep p (l.take j) ++ [l.getD j (0, 0)] := by
 rw [take_getD (d := (0, 0)) hj]
 unfold keep
 rw [List.filter_append]
 cases h : cgz p (l.getD j (0, 0)) with
 | true => rw [if_pos rfl, List.filter_cons]; simp only [h, Bool.not_true, Bool.false_eq_true, if_false, List.filter_nil, List.append_nil]
 | false => rw [if_neg (by simp), List.filter_cons]; simp only [h, Bool.not_false, if_true, List.filter_nil]
theorem mid_set (p : List Int) {l : List PQ} {j : Nat} (hj : j < l.length) (h : cgz p (l.getD j (0, 0)) = false) : (mid67 p l j).set (keep p (l.take j)).length (l.getD j (0, 0)) = mid67 p l (j + 1) := by
 have hle := keep_le p l j
 have hk := keep_next p hj
 rw [if_neg (by rw [h]; simp)] at hk
 unfold mid67
 rw [hk]
 rw [List.set_append_right _ _ (Nat.le_refl _), Nat.sub_self, List.length_append, List.append_assoc]
 congr 1
 have : l.drop (keep p (l.take j)).length = l.getD (keep p (l.take j)).length (0, 0) :: l.drop ((keep p (l.take j)).length + 1) := by
   rw [List.drop_eq_getElem_cons (by omega)]
   congr 1
   simp [List.getD_eq_getElem?_getD, show (keep p (l.take j)).length < l.length by omega]
 rw [this]
 rfl
theorem z_facts {p : List Int} {l : List PQ} (h : ∃ q ∈ l, cgz p q = true) : zIdx p l < l.length /\ cgz p (l.getD (zIdx p l) (0, 0)) = true /\ ∀ q ∈ l.take (zIdx p l), cgz p q = false := by
 have h1 : zIdx p l < l.length := List.findIdx_lt_length_of_exists h
 refine ⟨h1, ?_, fun q hq => ?_⟩
 · have := List.findIdx_getElem (w := h1)
   rw [List.getD_eq_getElem?_getD, List.getElem?_eq_getElem h1]
   exact this
 · obtain ⟨i, hi, rfl⟩ := List.getElem_of_mem hq
   rw [List.length_take] at hi
   rw [List.getElem_take]
   have hlt : i < l.findIdx (cgz p) := by
     have : i < zIdx p l := by omega
     exact this
   have := List.not_of_lt_findIdx hlt
   simpa using this
theorem keep_all (p : List Int) : ∀ {l : List PQ}, (∀ q ∈ l, cgz p q = false) -> keep p l = l
 | [], _ => rfl
 | q :: l, h => by
   unfold keep
   rw [List.filter_cons, h q (by simp)]
   simp only [Bool.not_false, if_true]
   congr 1
   exact keep_all p fun q hq => h q (by simp [hq])
theorem call67a (p : List Int) (l : List PQ) (m : Memo) (hp : pcs p l) (hm : memoOk p m) (hz : ∀ q ∈ l, cgz p q = false) : GCall Tryd.prog gl 67 false [.own 0 0, clo68] (obD 0 l p m) [.own 0 0] (obD 0 l p (cms p l m)) := by
 refine gcall_of (X := (Xm [e93, e68] 4 (fun _ => none))) ((Xm_ok _ _ _)) (f := 67) (fn := Tryd.f67) (c := bodyOf Tryd.f67) (by kernel_rfl) (by kernel_rfl) (view := false) (rvs := [.tmp 4]) (by kernel_rfl) (H := fun _ => none) 80 (by kernel_rfl) ?_
 refine of_eq (q := (fun (a : Prop) => (fun (b : Prop) => a /\ a /\ a /\ (((pcs p l /\ memoOk p m) /\ (a /\ (a /\ b) /\ a) /\ l = l /\ a /\ (p = p /\ b) /\ m = m /\ a) /\ l.length = l.length /\ a /\ a /\ b) /\ a /\ a /\ a /\ (zIdxR p l = (-1 : Int) -> a /\ a /\ a /\ b /\ l = l /\ a /\ (p = p /\ b) /\ cms p (List.take (zIdx p l + 1) l) m = cms p l m /\ a) /\ (¬zIdxR p l = (-1 : Int) -> a /\ inR .i64 (zIdxR p l + 1) /\ a /\ False)) (a /\ a)) (True)) (by kernel_rfl) ?_
 simp only [zz]
 have h1 : zIdx p l = l.length := find_none hz
 refine ⟨⟨hp, hm⟩, fun _ => by rw [h1, List.take_of_length_le (by omega)], fun h => h ?_⟩
 unfold zIdxR; rw [if_neg]
 rintro ⟨q, h1, h2⟩
 rw [hz q h1] at h2; cases h2
noncomputable def L67_0 : Code := lp (bodyOf Tryd.f67) 0
def inv67 (p : List Int) (l : List PQ) (j : Nat) : Prop := zIdx p l + 1 <= j /\ j <= l.length
def st67 (p : List Int) (l : List PQ) (m : Memo) (j : Nat) : St := ⟨.own 0 0 :: clo68 :: .dead :: .dead :: .dead :: .int .i64 (keep p (l.take j)).length :: .int .i64 j :: dd 35, obD 0 (mid67 p l j) p (cms p (l.take j) m)⟩
def ex67 (p : List Int) (l : List PQ) (m : Memo) : List (List Nat × Ex) := [([0, 1, 5], ⟨0, Unit, fun _ => True, fun _ => ⟨.own 0 0 :: clo68 :: .dead :: .dead :: .dead :: .int .i64 (keep p l).length :: dd 36, obD 0 (mid67 p l l.length) p (cms p l m)⟩⟩)]
noncomputable def H67 (p : List Int) (l : List PQ) (m : Memo) : Nat -> Option Hint := fun _ => some ⟨chk 4 [0, 1, 5, 6] (inv67 p l) (st67 p l m), (ex67 p l m).map (·.2)⟩
theorem loop67 (p : List Int) (l : List PQ) (m : Memo) (hp : pcs p l) (hm : memoOk p m) (R : Exit -> St -> Prop) : LoopOK (Xm [e93, e68] 4 (fun _ => none)) L67_0 ⟨chk 4 [0, 1, 5, 6] (inv67 p l) (st67 p l m), (ex67 p l m).map (·.2)⟩ R := by
 refine loop_ok (Xm_ok _ _ _) (H := fun _ _ => none) [0, 1, 5, 6] (inv67 p l) (st67 p l m) (fun k => l.length - k) (ex67 p l m) 90 fun (j : Nat) hk => ?_
 refine of_eq (q := (fun (k : Nat) => (fun (f : Int) => (fun (e : List PQ) => (fun (d : Memo) => (fun (c : Prop) => (fun (h : Prop) => (fun (i : Prop) => (fun (b : Int) => (fun (a : Int × Int) => (fun (g : Int × Int) => c /\ c /\ c /\ c /\ ((j : Int) < (e.length : Int) -> c /\ c /\ idxPre (j : Int) e.length /\ c /\ c /\ c /\ c /\ c /\ ((pre69 (7 : Int) p d g /\ ((a.fst = a.fst /\ a.snd = a.snd /\ c) /\ h) /\ c /\ i /\ d = d /\ c) /\ c /\ c /\ h) /\ c /\ ((!cgz p g) = true -> c /\ c /\ c /\ idxPre b e.length /\ c /\ c /\ inR .i64 (b + 1) /\ c /\ c /\ inR .i64 f /\ c /\ ∃ (y : Nat), (inv67 p l y /\ k - y < k - j) /\ (c /\ (c /\ h) /\ b + 1 = (↑(keep p (List.take y l)).length : Int) /\ f = (y : Int) /\ c) /\ e.set (keep p (List.take j l)).length g = mid67 p l y /\ c /\ i /\ cmq p d g = cms p (List.take y l) m /\ c) /\ ((!cgz p g) = false -> c /\ inR .i64 f /\ c /\ ∃ (y : Nat), (inv67 p l y /\ k - y < k - j) /\ (c /\ (c /\ h) /\ b = (↑(keep p (List.take y l)).length : Int) /\ f = (y : Int) /\ c) /\ e = mid67 p l y /\ c /\ i /\ cmq p d g = cms p (List.take y l) m /\ c)) /\ (¬(j : Int) < (e.length : Int) -> ∃ (y : Unit), c /\ (c /\ (c /\ h) /\ b = (↑(keep p l).length : Int) /\ c) /\ e = mid67 p l k /\ c /\ i /\ d = cms p l m /\ c)) ((a.fst, a.snd))) (e.getD j (0, 0))) ((↑(keep p (List.take j l)).length : Int))) (p = p /\ h)) (c /\ c)) (True)) (cms p (List.take j l) m)) (mid67 p l j)) ((j : Int) + 1)) (l.length)) (by kernel_rfl) ?_
 simp only [zz]
 obtain ⟨h1, h2⟩ := hk
 have hle := keep_le p l j
 have hl := hp.2.1
 rw [mid_length, mid_getD]
 have e1 : ((l.getD j (0, 0)).1, (l.getD j (0, 0)).2) = l.getD j (0, 0) := rfl
 rw [e1]
 refine ⟨fun hj => ?_, fun hj => ?_⟩
 · have hj : j < l.length := by omega
   have hpc := hp.2.2 _ (getD_mem (d := (0, 0)) hj)
   have hn := keep_next p hj
   have hc : cmq p (cms p (l.take j) m) (l.getD j (0, 0)) = cms p (l.take (j + 1)) m := by rw [take_getD (d := (0, 0)) hj, cms_snoc]
   refine ⟨by unfold idxPre; omega, ⟨hp.1, hpc, by have := hpc.2.1; omega, cms_ok hm⟩, fun hx => ?_, fun hx => ?_⟩
   · have hx : cgz p (l.getD j (0, 0)) = false := by simpa using hx
     rw [if_neg (by rw [hx]; simp)] at hn
     refine ⟨by unfold idxPre; omega, by simp only [inR]; omega, by simp only [inR]; omega, j + 1, ⟨⟨by omega, by omega⟩, by omega⟩, ⟨by rw [hn]; simp, by omega⟩, mid_set p hj hx, hc⟩
   · have hx : cgz p (l.getD j (0, 0)) = true := by simpa using hx
     rw [if_pos hx] at hn
     refine ⟨by simp only [inR]; omega, j + 1, ⟨⟨by omega, by omega⟩, by omega⟩, ⟨by rw [hn], by omega⟩, by unfold mid67; rw [hn], hc⟩
 · have e : j = l.length := by omega
   subst e
   rw [List.take_length]
   exact ⟨rfl, rfl, rfl⟩
theorem call67b (p : List Int) (l : List PQ) (m : Memo) (hp : pcs p l) (hm : memoOk p m) (hz : ∃ q ∈ l, cgz p q = true) : GCall Tryd.prog gl 67 false [.own 0 0, clo68] (obD 0 l p m) [.sub 0 0 [] 0 (keep p l).length] (obD 0 (nz67 p l) p (cms p l m)) := by
 refine gcall_of (X := (Xm [e93, e68] 4 (fun _ => none))) ((Xm_ok _ _ _)) (f := 67) (fn := Tryd.f67) (c := bodyOf Tryd.f67) (by kernel_rfl) (by kernel_rfl) (view := false) (rvs := [.tmp 4]) (by kernel_rfl) (H := (H67 p l m)) 80 (by kernel_rfl) ?_
 have hL := loop67 p l m hp hm
 refine of_eq (q := (fun (o : Nat) => (fun (n : Memo) => (fun (j : Memo) => (fun (i : Nat) => (fun (h : Option Int) => (fun (g : Int) => (fun (f : Cy) => (fun (d : Prop) => (fun (k : Prop) => (fun (c : List PQ) => (fun (b : Option Int) => (fun (e : Nat) => (fun (a : List (Int × Int)) => d /\ d /\ d /\ (((pcs p l /\ memoOk p m) /\ (d /\ (d /\ d /\ d) /\ d) /\ l = l /\ d /\ k /\ m = m /\ d) /\ l.length = l.length /\ d /\ d /\ d /\ d) /\ d /\ d /\ d /\ (g = (-1 : Int) -> d /\ d /\ d /\ (False /\ d) /\ l = nz67 p l /\ d /\ k /\ j = n /\ d) /\ (¬g = (-1 : Int) -> d /\ inR .i64 (g + 1) /\ d /\ LoopOK f L67_0 { J := chk (4 : Nat) [o, (1 : Nat), (5 : Nat), (6 : Nat)] (inv67 p l) (st67 p l m), exits := List.map (fun (x : List Nat × Ex) => x.snd) (ex67 p l m) } (RetR f false false [ResultVar.tmp (4 : Tmp)] [AV.sub o o [] o i] (obD o (nz67 p l) p n)) /\ (∃ (y : Nat), inv67 p l y /\ (d /\ (d /\ d /\ d) /\ g = (↑(keep p (List.take y l)).length : Int) /\ g + 1 = (y : Int) /\ d) /\ l = mid67 p l y /\ d /\ k /\ j = cms p (List.take y l) m /\ d) /\ (∀ (y : Unit), d -> d /\ d /\ slPre c.length c.length b h h /\ d /\ d /\ d /\ slPre a.length a.length h b h /\ d /\ d /\ ((bLo h = o /\ bHi a.length b - bLo h = i) /\ d) /\ a = nz67 p l /\ d /\ k /\ n = n /\ d) /\ d)) (List.take (bLo b) c ++ (List.take e (List.replicate e ((Ty.int .i64).s2 (Ty.int .i64)).dflt) ++ List.drop (bLo b + e) c))) (bHi c.length h - bLo b)) (some (i : Int))) (mid67 p l l.length)) (p = p /\ d /\ d)) (True)) (Xm [e93, e68] (4 : Nat) fun (x : Nat) => none)) (zIdxR p l)) (none)) ((keep p l).length)) (cms p (List.take (zIdx p l + 1) l) m)) (cms p l m)) ((0 : Nat))) (by kernel_rfl) ?_
 simp only [zz]
 obtain ⟨z1, z2, z3⟩ := z_facts hz
 have hl := hp.2.1
 have hR : zIdxR p l = (zIdx p l : Int) := by unfold zIdxR; rw [if_pos hz]
 have hk0 : keep p (l.take (zIdx p l + 1)) = l.take (zIdx p l) := by
   rw [keep_next p z1, if_pos z2, keep_all p z3]
 have hkl : (keep p l).length <= l.length := List.length_filter_le ..
 have hml := mid_length p l l.length
 rw [hR]
 refine ⟨⟨hp, hm⟩, fun h => by omega, fun _ => ⟨by simp only [inR]; omega, hL _, ⟨zIdx p l + 1, ⟨Nat.le_refl _, z1⟩, ⟨by rw [hk0, List.length_take]; omega, by omega⟩, ?_, rfl⟩, fun _ => ?_⟩⟩
 · unfold mid67
   rw [hk0, List.length_take, show min (zIdx p l) l.length = zIdx p l by omega, List.take_append_drop]
 · rw [hml]
   have e0 : bLo (some ((keep p l).length : Int)) = (keep p l).length := by simp [bLo]
   have e1 : bHi l.length none = l.length := rfl
   have e2 : bHi l.length (some ((keep p l).length : Int)) = (keep p l).length := by simp [bHi]
   have e3 : bLo none = 0 := rfl
   rw [e0, e1]
   have e4 : mid67 p l l.length = keep p l ++ l.drop (keep p l).length := by unfold mid67; rw [List.take_length]
   have e5 : List.take (keep p l).length (mid67 p l l.length) ++ (List.take (l.length - (keep p l).length) (List.replicate (l.length - (keep p l).length) ((Ty.int IntKind.i64).s2 (Ty.int IntKind.i64)).dflt) ++ List.drop ((keep p l).length + (l.length - (keep p l).length)) (mid67 p l l.length)) = nz67 p l := by
     rw [e4, List.take_left, List.take_of_length_le (by simp), List.drop_eq_nil_of_le (by simp)]
     simp [nz67, Ty.dflt]
   rw [e5]
   have e6 : (nz67 p l).length = l.length := by unfold nz67; simp; omega
   rw [e6, e2, e3]
   exact fun _ => ⟨by simp only [slPre]; simp [bLo, bHi]; omega, by simp only [slPre]; simp [bLo, bHi]; omega, by omega, rfl⟩
end Go.Am.Bern

/- Bern: Roots, Count. -/
namespace Go.Am.Bern
open Go Go.Am Go.Proofs
theorem grL_piece (gd : List PQ -> Bool) (p : List Int) : ∀ (n d k : Nat), d + n = 6 -> k < 2 ^ d -> ∀ q ∈ grL gd p n d k, isPiece q := by
 have one : ∀ d k : Nat, d <= 6 -> k < 2 ^ d -> isPiece ((d : Int), (k : Int)) := fun d k hd hk => by
   unfold isPiece
   have e : ((2 ^ d : Nat) : Int) = 2 ^ d := by rw [Int.natCast_pow]; try rfl
   simp only [Int.toNat_natCast]
   rw [<- e]
   omega
 intro n
 induction n with
 | zero =>
   intro d k hd hk q hq
   unfold grL at hq
   split at hq
   · simp at hq; subst hq; exact one d k (by omega) hk
   · simp at hq
 | succ n ih =>
   intro d k hd hk q hq
   rw [grL_succ] at hq
   have hp : 2 ^ (d + 1) = 2 * 2 ^ d := by rw [Nat.pow_succ]; omega
   split at hq
   · simp at hq; subst hq; exact one d k (by omega) hk
   · unfold hvL at hq
     split at hq
     · rcases List.mem_append.mp hq with hq | hq
       · exact ih (d + 1) (2 * k) (by omega) (by omega) q hq
       · exact ih (d + 1) (2 * k + 1) (by omega) (by omega) q hq
     · exact ih (d + 1) (2 * k) (by omega) (by omega) q hq
theorem en67 : Enters Tryd.prog 67 := ⟨Tryd.f67, by kernel_rfl, by kernel_rfl, by kernel_rfl⟩
def e67a : Entry Tryd.prog gl := entryW 67 en67 true get93 (fun x => pcs x.1 x.2.1 /\ memoOk x.1 x.2.2 /\ ∀ q ∈ x.2.1, cgz x.1 q = false) false (fun _ => [.own 0 0, clo68]) (fun x => obD 0 x.2.1 x.1 x.2.2) (fun _ => [.own 0 0]) (fun x => obD 0 x.2.1 x.1 (cms x.1 x.2.1 x.2.2)) (fun x h => call67a x.1 x.2.1 x.2.2 h.1 h.2.1 h.2.2)
def e67b : Entry Tryd.prog gl := entryW 67 en67 true get93 (fun x => pcs x.1 x.2.1 /\ memoOk x.1 x.2.2 /\ ∃ q ∈ x.2.1, cgz x.1 q = true) false (fun _ => [.own 0 0, clo68]) (fun x => obD 0 x.2.1 x.1 x.2.2) (fun x => [.sub 0 0 [] 0 (keep x.1 x.2.1).length]) (fun x => obD 0 (nz67 x.1 x.2.1) x.1 (cms x.1 x.2.1 x.2.2)) (fun x h => call67b x.1 x.2.1 x.2.2 h.1 h.2.1 h.2.2)
def rootsB (p : List Int) : Prop := isPoly p /\ plainP p /\ P64.coverB p = true
instance (p : List Int) : Decidable (rootsB p) := inferInstanceAs (Decidable (_ /\ _))
def rootsP (p : List Int) : List PQ := if rootsB p then keep p (P64.coverL p) else []
def rootsE (p : List Int) : Int := if isPoly p then (if plainP p then (if P64.coverB p = true then 0 else 8) else 4) else 80
theorem cover_pcs {p : List Int} (hp : isPoly p) : pcs p (P64.coverL p) := by
 have hlen : (P64.coverL p).length <= 64 := grL_len _ p 6 0 0
 exact ⟨hp, by omega, grL_piece _ p 6 0 0 (by omega) (by omega)⟩
theorem call20 (p : List Int) (h : p.length < 1000000) : GCall Tryd.prog gl 20 false [.sl I64 p] [] [.sl Q2 (rootsP p), .int .i64 (rootsE p)] [] := by
 have hlen : (P64.coverL p).length <= 64 := grL_len _ p 6 0 0
 have r1 : ¬ isPoly p -> rootsP p = [] /\ rootsE p = errOf p := fun h => by simp [rootsP, rootsB, rootsE, errOf, h]
 have r2 : ¬ plainP p -> isPoly p -> rootsP p = [] /\ rootsE p = 4 := fun h hp => by simp [rootsP, rootsB, rootsE, hp, h]
 by_cases hb : P64.coverB p = true
 · have r3 : isPoly p -> plainP p -> rootsP p = keep p (P64.coverL p) /\ rootsE p = 0 := fun hp h => by simp [rootsP, rootsB, rootsE, hp, h, hb]
   by_cases hz : ∃ q ∈ P64.coverL p, cgz p q = true
   · refine gcall_of (X := (X [e56, e61, e62, e66, e63o, e67b])) ((X_ok _)) (f := 20) (fn := Tryd.f20) (c := bodyOf Tryd.f20) (by kernel_rfl) (by kernel_rfl) (view := true) (rvs := [.tmp 2, .tmp 3]) (by kernel_rfl) (H := fun _ => none) 80 (by kernel_rfl) ?_
     refine of_eq (q := (fun (g : Memo) => (fun (e : Prop) => (fun (d : Int) => (fun (b : Prop) => (fun (f : Prop) => (fun (a : List PQ) => (fun (c : List (Int × Int)) => b /\ b /\ b /\ (p.length + 1 <= 1000000 /\ b) /\ b /\ b /\ b /\ (¬errOf p = d -> b /\ b /\ b /\ b /\ (e /\ errOf p = rootsE p /\ b) /\ b) /\ (¬¬errOf p = d -> b /\ (((1 : Nat) <= p.length /\ p.length <= 7 /\ coefs p) /\ b) /\ b /\ ((!decide (plainP p)) = true -> b /\ b /\ b /\ (e /\ (4 : Int) = rootsE p /\ b) /\ b) /\ ((!decide (plainP p)) = false -> b /\ f /\ b /\ b /\ b /\ b /\ (((isPoly p /\ memoOk p [] /\ P64.coverB p = true) /\ (b /\ (d = d /\ d = d /\ b) /\ f /\ b) /\ (p = p /\ f) /\ ([] : List ((Int × Int) × List (Int × Int))) = [] /\ b) /\ b /\ f) /\ b /\ b /\ b /\ b /\ b /\ (((pcs p a /\ memoOk p g /\ ∃ (q : PQ), q ∈ a /\ cgz p q = true) /\ (b /\ (b /\ f) /\ b) /\ a = a /\ b /\ (p = p /\ f) /\ g = g /\ b) /\ (nz67 p a).length = a.length /\ b /\ b /\ f) /\ (c.length + 1 <= 1000000 /\ b) /\ b /\ b /\ b /\ (c = rootsP p /\ d = rootsE p /\ b) /\ b))) (List.take (keep p a).length (List.drop (0 : Nat) (nz67 p a)))) (P64.coverL p)) (b /\ b)) (True)) ((0 : Int))) (([] : List (Int × Int)) = rootsP p)) (P64.coverM p [])) (by kernel_rfl) ?_
     simp only [zz]
     refine ⟨by omega, fun he => ?_, fun he => ?_⟩
     · obtain ⟨e1, e2⟩ := r1 (errOf_pos he)
       exact ⟨e1.symm, e2.symm⟩
     · have hp := errOf_zero he
       refine ⟨hp, fun hx => ?_, fun hx => ?_⟩
       · have hx : ¬ plainP p := by simpa using hx
         obtain ⟨e1, e2⟩ := r2 hx hp
         exact ⟨e1.symm, e2.symm⟩
       · have hx : plainP p := by simpa using hx
         obtain ⟨e1, e2⟩ := r3 hp hx
         have hnz : (nz67 p (P64.coverL p)).length = (P64.coverL p).length := by
           have : (keep p (P64.coverL p)).length <= (P64.coverL p).length := List.length_filter_le ..
           unfold nz67; simp; omega
         have htk : List.take (keep p (P64.coverL p)).length (List.drop 0 (nz67 p (P64.coverL p))) = keep p (P64.coverL p) := by
           unfold nz67; rw [List.drop_zero, List.take_left]
         have hkl : (keep p (P64.coverL p)).length <= (P64.coverL p).length := List.length_filter_le ..
         rw [htk]
         exact ⟨⟨hp, memoOk_nil p, hb⟩, ⟨⟨cover_pcs hp, grM_ok _ p (memoOk_nil p), hz⟩, hnz⟩, by omega, e1.symm, e2.symm⟩
   · refine gcall_of (X := (X [e56, e61, e62, e66, e63o, e67a])) ((X_ok _)) (f := 20) (fn := Tryd.f20) (c := bodyOf Tryd.f20) (by kernel_rfl) (by kernel_rfl) (view := true) (rvs := [.tmp 2, .tmp 3]) (by kernel_rfl) (H := fun _ => none) 80 (by kernel_rfl) ?_
     refine of_eq (q := (fun (f : Memo) => (fun (d : Prop) => (fun (c : Int) => (fun (b : List PQ) => (fun (a : Prop) => (fun (e : Prop) => a /\ a /\ a /\ (p.length + 1 <= 1000000 /\ a) /\ a /\ a /\ a /\ (¬errOf p = c -> a /\ a /\ a /\ a /\ (d /\ errOf p = rootsE p /\ a) /\ a) /\ (¬¬errOf p = c -> a /\ (((1 : Nat) <= p.length /\ p.length <= 7 /\ coefs p) /\ a) /\ a /\ ((!decide (plainP p)) = true -> a /\ a /\ a /\ (d /\ (4 : Int) = rootsE p /\ a) /\ a) /\ ((!decide (plainP p)) = false -> a /\ e /\ a /\ a /\ a /\ a /\ (((isPoly p /\ memoOk p [] /\ P64.coverB p = true) /\ (a /\ (c = c /\ c = c /\ a) /\ e /\ a) /\ (p = p /\ e) /\ ([] : List ((Int × Int) × List (Int × Int))) = [] /\ a) /\ a /\ e) /\ a /\ a /\ a /\ a /\ a /\ (((pcs p b /\ memoOk p f /\ ∀ (q : PQ), q ∈ b -> cgz p q = false) /\ (a /\ (a /\ e) /\ a) /\ b = b /\ a /\ (p = p /\ e) /\ f = f /\ a) /\ b.length = b.length /\ a /\ a /\ e) /\ (b.length + 1 <= 1000000 /\ a) /\ a /\ a /\ a /\ (b = rootsP p /\ c = rootsE p /\ a) /\ a))) (a /\ a)) (True)) (P64.coverL p)) ((0 : Int))) (([] : List (Int × Int)) = rootsP p)) (P64.coverM p [])) (by kernel_rfl) ?_
     simp only [zz]
     have hz' : ∀ q ∈ P64.coverL p, cgz p q = false := fun q hq => by
       cases h : cgz p q with
       | false => rfl
       | true => exact absurd ⟨q, hq, h⟩ hz
     refine ⟨by omega, fun he => ?_, fun he => ?_⟩
     · obtain ⟨e1, e2⟩ := r1 (errOf_pos he)
       exact ⟨e1.symm, e2.symm⟩
     · have hp := errOf_zero he
       refine ⟨hp, fun hx => ?_, fun hx => ?_⟩
       · have hx : ¬ plainP p := by simpa using hx
         obtain ⟨e1, e2⟩ := r2 hx hp
         exact ⟨e1.symm, e2.symm⟩
       · have hx : plainP p := by simpa using hx
         obtain ⟨e1, e2⟩ := r3 hp hx
         rw [keep_all p hz'] at e1
         exact ⟨⟨hp, memoOk_nil p, hb⟩, ⟨cover_pcs hp, grM_ok _ p (memoOk_nil p), hz'⟩, by omega, e1.symm, e2.symm⟩
 · have hb : P64.coverB p = false := by simpa using hb
   refine gcall_of (X := (X [e56, e61, e62, e66, e63n])) ((X_ok _)) (f := 20) (fn := Tryd.f20) (c := bodyOf Tryd.f20) (by kernel_rfl) (by kernel_rfl) (view := true) (rvs := [.tmp 2, .tmp 3]) (by kernel_rfl) (H := fun _ => none) 80 (by kernel_rfl) ?_
   refine of_eq (q := (fun (c : Int) => (fun (b : Prop) => (fun (a : Prop) => a /\ a /\ a /\ (p.length + 1 <= 1000000 /\ a) /\ a /\ a /\ a /\ (¬errOf p = c -> a /\ a /\ a /\ a /\ (b /\ errOf p = rootsE p /\ a) /\ a) /\ (¬¬errOf p = c -> a /\ (((1 : Nat) <= p.length /\ p.length <= 7 /\ coefs p) /\ a) /\ a /\ ((!decide (plainP p)) = true -> a /\ a /\ a /\ (b /\ (4 : Int) = rootsE p /\ a) /\ a) /\ ((!decide (plainP p)) = false -> a /\ (a /\ a) /\ a /\ a /\ a /\ a /\ (((isPoly p /\ memoOk p [] /\ P64.coverB p = false) /\ (a /\ (c = c /\ c = c /\ a) /\ (a /\ a) /\ a) /\ (p = p /\ a /\ a) /\ ([] : List ((Int × Int) × List (Int × Int))) = [] /\ a) /\ a /\ a /\ a) /\ a /\ a /\ a /\ a /\ a /\ a /\ (b /\ (8 : Int) = rootsE p /\ a) /\ a))) (True)) (([] : List (Int × Int)) = rootsP p)) ((0 : Int))) (by kernel_rfl) ?_
   simp only [zz]
   refine ⟨by omega, fun he => ?_, fun he => ?_⟩
   · obtain ⟨e1, e2⟩ := r1 (errOf_pos he)
     exact ⟨e1.symm, e2.symm⟩
   · have hp := errOf_zero he
     refine ⟨hp, fun hx => ?_, fun hx => ?_⟩
     · have hx : ¬ plainP p := by simpa using hx
       obtain ⟨e1, e2⟩ := r2 hx hp
       exact ⟨e1.symm, e2.symm⟩
     · have hx : plainP p := by simpa using hx
       exact ⟨⟨hp, memoOk_nil p, hb⟩, by simp [rootsP, rootsB, hb], by simp [rootsE, hp, hx, hb]⟩
def e20 : Entry Tryd.prog gl := entry1 20 ⟨Tryd.f20, by kernel_rfl, by kernel_rfl, by kernel_rfl⟩ SI (fun p => p.length < 1000000) false (fun p => [.sl Q2 (rootsP p), .int .i64 (rootsE p)]) (fun _ => []) (call20)
theorem call21 (p : List Int) (h : p.length < 1000000) : GCall Tryd.prog gl 21 false [.sl I64 p] [] [.int .i64 (rootsP p).length, .int .i64 (rootsE p)] [] := by
 refine gcall_of (X := X [e20]) (X_ok [e20]) (f := 21) (fn := Tryd.f21) (c := bodyOf Tryd.f21) (by kernel_rfl) (by kernel_rfl) (view := false) (rvs := [.tmp 2, .tmp 3]) (by kernel_rfl) (H := fun _ => none) 80 (by kernel_rfl) ?_
 refine of_eq (q := (fun (a : Prop) => a /\ a /\ a /\ (p.length + 1 <= 1000000 /\ a) /\ a /\ a /\ a /\ a /\ a /\ a /\ a /\ a /\ a /\ a /\ a /\ ((↑(rootsP p).length : Int) = (↑(rootsP p).length : Int) /\ rootsE p = rootsE p /\ a) /\ a) (True)) (by kernel_rfl) ?_
 simp only [zz]
 omega
def e21 : Entry Tryd.prog gl := entry1 21 ⟨Tryd.f21, by kernel_rfl, by kernel_rfl, by kernel_rfl⟩ SI (fun p => p.length < 1000000) false (fun p => [.int .i64 (rootsP p).length, .int .i64 (rootsE p)]) (fun _ => []) (call21)
end Go.Am.Bern

/- Bern: readings of the reference. -/
namespace Go.Am.Bern
open Go Go.Am Go.Proofs
def cgs (p : List Int) (d k : Nat) : Nat := chg (qc p d k)
section
variable (p : List Int)
end
end Go.Am.Bern

/- Bern: readings that are checked. -/
namespace Go.Am.Bern
open Go Go.Am Go.Proofs
def fr' (x : PQ) : Int := x.2 * 2 ^ (6 - x.1).toNat
def gapz (p : List Int) (a b : Int) : Prop := ∀ j : Nat, j < 64 -> a <= j -> (j : Int) < b -> cgs p 6 j = 0
instance (p : List Int) (a b : Int) : Decidable (gapz p a b) := inferInstanceAs (Decidable (∀ j : Nat, j < 64 -> _))
def rdR (p : List Int) : Int -> List PQ -> Prop
 | a, [] => a <= 64 /\ gapz p a 64
 | a, x :: l => isPiece x /\ cgs p x.1.toNat x.2.toNat = 1 /\ a <= fr' x /\ gapz p a (fr' x) /\ rdR p (fr' x + 2 ^ (6 - x.1).toNat) l
instance rdR_dec (p : List Int) : ∀ (a : Int) (l : List PQ), Decidable (rdR p a l)
 | _, [] => by unfold rdR; infer_instance
 | a, x :: l => by unfold rdR; have := rdR_dec p (fr' x + 2 ^ (6 - x.1).toNat) l; infer_instance
end Go.Am.Bern

/- Bern: awake. -/
namespace Go.Am.Bern
open Go Go.Am Go.Proofs
theorem call18 : GCall Tryd.prog gl 18 true [] [] [.tt] [] := by
 have f1 : cornersE [1, -3, 3] (0, 0) = 0 := by kernel_rfl
 have f2 : (cornersR [1, -3, 3] (0, 0)).length = 3 := by kernel_rfl
 have f3 : errOf [1, -3, 3] = 0 := by kernel_rfl
 have f4 : (posK [1, -3, 3]).length = 2 := by kernel_rfl
 have f5 : isPoly [1, -3, 3] := by decide
 have f6 : errOf [-1, 3] = 0 := by kernel_rfl
 have f7 : low29 [-1, 3] = (0, 1) := by kernel_rfl
 have f8 : rootsE [1, -5, 5] = 0 := by kernel_rfl
 have f9 : (rootsP [1, -5, 5]).length = 2 := by kernel_rfl
 have f10 : (if given [((1 : Int), (1 : Int)), (-1, 2), (1, 1)] 7 then (0 : Int) else 1) = 0 := by kernel_rfl
 refine gcall_of (X := (X [e13, e26, e29, e21, e37, e15, e28])) ((X_ok _)) (f := 18) (fn := Tryd.f18) (c := bodyOf Tryd.f18) (by kernel_rfl) (by kernel_rfl) (view := false) (rvs := [.tmp 0]) (by kernel_rfl) (H := fun _ => none) 200 (by kernel_rfl) ?_
 refine of_eq (q := True /\ True /\ True /\ ([(1 : Int), (-3 : Int), (3 : Int)].length + 1 <= 1000000 /\ True) /\ True /\ True /\ True /\ True /\ True /\ True /\ ([(1 : Int), (-3 : Int), (3 : Int)].length + 1 <= 1000000 /\ True) /\ True /\ True /\ True /\ True /\ True /\ True /\ True /\ True /\ ([(-1 : Int), (3 : Int)].length + 1 <= 1000000 /\ True) /\ True /\ True /\ True /\ True /\ True /\ True /\ True /\ True /\ True /\ ([(1 : Int), (-5 : Int), (5 : Int)].length + 1 <= 1000000 /\ True) /\ True /\ True /\ True /\ True /\ True /\ True /\ True /\ True /\ True /\ ([((1 : Int), (1 : Int)), ((-1 : Int), (2 : Int)), ((1 : Int), (1 : Int))].length + 1 <= 1000000 /\ True) /\ True /\ True /\ True /\ True /\ True /\ True /\ True /\ True /\ (cornersE [(1 : Int), (-3 : Int), (3 : Int)] ((0 : Int), (0 : Int)) = 0 -> True /\ True /\ True /\ True /\ True /\ ((cornersR [(1 : Int), (-3 : Int), (3 : Int)] ((0 : Int), (0 : Int))).length + 1 <= 1000000 /\ True) /\ True /\ True /\ (true = true -> True /\ True /\ True /\ True /\ (errOf [(1 : Int), (-3 : Int), (3 : Int)] = 0 -> True /\ True /\ True /\ (true = true -> True /\ True /\ ((isPoly [(1 : Int), (-3 : Int), (3 : Int)] /\ (posK [(1 : Int), (-3 : Int), (3 : Int)]).length < 1000000) /\ True) /\ True /\ True /\ (true = true -> True /\ True /\ True /\ True /\ (errOf [(-1 : Int), (3 : Int)] = 0 -> True /\ True /\ True /\ (true = true -> True /\ True /\ True /\ True /\ True /\ (((low29 [(-1 : Int), (3 : Int)]).fst, (low29 [(-1 : Int), (3 : Int)]).snd) = ((0 : Int), (1 : Int)) -> True /\ True /\ True /\ True /\ (rootsE [(1 : Int), (-5 : Int), (5 : Int)] = 0 -> True /\ True /\ True /\ True /\ ((↑(rootsP [(1 : Int), (-5 : Int), (5 : Int)]).length : Int) = 2 -> True /\ True /\ True /\ True /\ ((if given [((1 : Int), (1 : Int)), ((-1 : Int), (2 : Int)), ((1 : Int), (1 : Int))] (7 : Int) then (0 : Int) else (1 : Int)) = 0 -> True /\ True /\ True /\ True /\ True /\ (true = true /\ True) /\ True) /\ (¬(if given [((1 : Int), (1 : Int)), ((-1 : Int), (2 : Int)), ((1 : Int), (1 : Int))] (7 : Int) then (0 : Int) else (1 : Int)) = 0 -> True /\ True /\ True /\ (false = true /\ True) /\ True)) /\ (¬(↑(rootsP [(1 : Int), (-5 : Int), (5 : Int)]).length : Int) = 2 -> True /\ True /\ True /\ True /\ True /\ (false = true /\ True) /\ True)) /\ (¬rootsE [(1 : Int), (-5 : Int), (5 : Int)] = 0 -> True /\ True /\ True /\ True /\ True /\ True /\ True /\ (false = true /\ True) /\ True)) /\ (¬((low29 [(-1 : Int), (3 : Int)]).fst, (low29 [(-1 : Int), (3 : Int)]).snd) = ((0 : Int), (1 : Int)) -> True /\ True /\ True /\ True /\ True /\ True /\ True /\ True /\ True /\ (false = true /\ True) /\ True)) /\ (true = false -> True /\ True /\ True /\ True /\ True /\ True /\ True /\ True /\ True /\ True /\ True /\ (false = true /\ True) /\ True)) /\ (¬errOf [(-1 : Int), (3 : Int)] = 0 -> True /\ True /\ True /\ True /\ True /\ True /\ True /\ True /\ True /\ True /\ True /\ True /\ True /\ (false = true /\ True) /\ True)) /\ (true = false -> True /\ True /\ True /\ True /\ True /\ True /\ True /\ True /\ True /\ True /\ True /\ True /\ True /\ True /\ True /\ (false = true /\ True) /\ True)) /\ (true = false -> True /\ True /\ True /\ True /\ True /\ True /\ True /\ True /\ True /\ True /\ True /\ True /\ True /\ True /\ True /\ True /\ True /\ (false = true /\ True) /\ True)) /\ (¬errOf [(1 : Int), (-3 : Int), (3 : Int)] = 0 -> True /\ True /\ True /\ True /\ True /\ True /\ True /\ True /\ True /\ True /\ True /\ True /\ True /\ True /\ True /\ True /\ True /\ True /\ True /\ (false = true /\ True) /\ True)) /\ (true = false -> True /\ True /\ True /\ True /\ True /\ True /\ True /\ True /\ True /\ True /\ True /\ True /\ True /\ True /\ True /\ True /\ True /\ True /\ True /\ True /\ True /\ (false = true /\ True) /\ True)) /\ (¬cornersE [(1 : Int), (-3 : Int), (3 : Int)] ((0 : Int), (0 : Int)) = 0 -> True /\ True /\ True /\ True /\ True /\ True /\ True /\ True /\ True /\ True /\ True /\ True /\ True /\ True /\ True /\ True /\ True /\ True /\ True /\ True /\ True /\ True /\ True /\ (false = true /\ True) /\ True)) (by kernel_rfl) ?_
 simp only [f1, f2, f3, f4, f6, f7, f8, f9, f10]
 simp [f5]
 first | done | kernel_rfl
def e18 : Entry Tryd.prog gl where
 f := 18
 lend := false
 en := ⟨Tryd.f18, by kernel_rfl, by kernel_rfl, by kernel_rfl⟩
 go := fun args ob0 => match args, ob0 with
   | [], [] => some (True, true, [.tt], [])
   | _, _ => none
 ok := by
   intro args ob0 p s r o h hp
   split at h <;> try (cases h; done)
   injection h with h; injection h with h1 h2; injection h2 with h2 h3; injection h3 with h3 h4
   subst h1 h2 h3 h4
   exact call18
theorem call12v (l : List Int) (hl : l.length < 1000000000000000) : GCall Tryd.prog gl 12 true [.sl I64 l] [] [.sl I64 (tmL l)] [] := by
 refine gcall_of (X := (Xw [] hs12)) ((Xw_ok [] hs12)) (f := 12) (fn := Tryd.f12) (c := bodyOf Tryd.f12) (by kernel_rfl) (by kernel_rfl) (view := true) (rvs := [.tmp 2]) (by kernel_rfl) (H := (H12 l)) 80 (by kernel_rfl) ?_
 have hL := loop12 l hl
 refine of_eq (q := (fun (b : Prop) => (fun (a : List Int) => b /\ b /\ b /\ b /\ LoopOK (Xw [] hs12) L12_0 { J := chk (0 : Nat) [(0 : Nat), (3 : Nat), (4 : Nat)] (inv12 l) (st12 l), exits := List.map (fun (x : List Nat × Ex) => x.snd) (ex12 l) } (RetR (Xw [] hs12) true true [ResultVar.tmp (2 : Tmp)] [AV.sl I64 (tmL l)] []) /\ (∃ (y : Nat), inv12 l y /\ (l = l /\ b /\ (0 : Int) = (y : Int) /\ b) /\ ([] : List Int) = List.map tm (List.take y l) /\ b) /\ (∀ (y : Unit), b -> b /\ b /\ b /\ ((a.length : Int) = 0 -> b /\ b /\ sumPre a.length [(1 : Int)].length (nat_lit 8) /\ b /\ b /\ b /\ b /\ (a ++ [(1 : Int)] = tmL l /\ b) /\ b) /\ (¬(a.length : Int) = 0 -> b /\ b /\ b /\ (a = tmL l /\ b) /\ b)) /\ b) (List.map tm (List.take (7 : Nat) l))) (True)) (by kernel_rfl) ?_
 simp only [zz]
 refine ⟨hL _, ⟨0, ⟨by omega, by omega⟩, rfl, by simp⟩, fun _ _ => ⟨fun h => ?_, fun h => ?_⟩⟩
 · have : l = [] := by
     have h : (List.map tm (List.take 7 l)).length = 0 := by omega
     rw [List.length_map, List.length_take] at h
     exact List.length_eq_zero_iff.mp (by omega)
   subst this
   exact ⟨by unfold sumPre; simp, by simp [tmL]; try rfl⟩
 · have : l ≠ [] := fun e => by subst e; simp at h
   simp [tmL, this]
def e12v : Entry Tryd.prog gl := entry1 12 ⟨Tryd.f12, by kernel_rfl, by kernel_rfl, by kernel_rfl⟩ SI (fun l => l.length < 1000000000000000) true (fun l => [.sl I64 (tmL l)]) (fun _ => []) call12v
end Go.Am.Bern

/- Bern: the law BernChecks. -/
namespace Go.Am
open Go
/-- Bools that are known. -/
def litB : AV -> AV
 | .bool true => .tt
 | .bool false => .ff
 | a => a
theorem TR.litB {E : Env} {I : Nat -> Option Inf} {F : Nat -> Prop} {w : World} : ∀ {x : AV} {u : Value}, TR E I F w x u -> TR E I F w (litB x) u
 | .bool true, _, h => h
 | .bool false, _, h => h
 | _, _, h => by
   unfold Am.litB
   split <;> exact h
theorem GCall.lit {P : Program} {gl : Nat -> Option ((t : Ty) × t.D)} {f : FuncId} {sep : Bool} {args res : List AV} {ob0 ob1 : List Ob} (h : GCall P gl f sep args ob0 res ob1) : GCall P gl f sep args ob0 (res.map litB) ob1 := by
 intro E F F0 w a h1 h2 h3 hr
 refine (h E F F0 w a h1 h2 h3 hr).mono ?_
 rintro e w' ⟨E', F', a', he, R⟩
 refine ⟨E', F', a', he, R.retm (by simp) fun i y hy => ?_⟩
 rw [List.getElem?_map] at hy
 cases hx : res[i]? with
 | none => rw [hx] at hy; cases hy
 | some x =>
   rw [hx] at hy
   injection hy with hy
   subst hy
   exact ⟨x, rfl, fun u hu => TR.litB hu⟩
end Go.Am
namespace Go.Am.Bern
open Go Go.Am Go.Proofs
end Go.Am.Bern

/- Bern: the law BernLists. -/
namespace Go.Am.Bern
open Go Go.Am Go.Proofs
def yG (l : List PQ) (m : Int) : Prop := l.length < 1000000 /\ given l m
theorem y34c (l : List PQ) (h : yG l 6) : GCall Tryd.prog gl 34 false [.sl Q2 l] [] [.sl Q2 (qs (raise (rats l))), .int .i64 0] [] := by
 have := call34 l h.1
 rwa [show raiseR l = qs (raise (rats l)) by simp [raiseR, h.2], if_pos h.2] at this
def y34 : Entry Tryd.prog gl := entry1 34 ⟨Tryd.f34, by kernel_rfl, by kernel_rfl, by kernel_rfl⟩ SQ (fun l => yG l 6) false (fun l => [.sl Q2 (qs (raise (rats l))), .int .i64 0]) (fun _ => []) y34c
end Go.Am.Bern

/- Bern: the law BernRoots: plain facts. -/
namespace Go.Am.Bern
open Go Go.Am Go.Proofs
section
variable {P : Rat -> Prop} (x : Rat) (hP : ∀ a b, P a -> P b -> P (avg x a b)) (h0 : P 0)
include hP
include h0
omit hP in
end
end Go.Am.Bern

/- Bern: Positive, with a result of its own. -/
namespace Go.Am.Bern
open Go Go.Am Go.Proofs
end Go.Am.Bern

/- Bern: plain facts for BernPositive. -/
namespace Go.Am.Bern
open Go Go.Am Go.Proofs
section
variable {P : Rat -> Prop} (x : Rat) (hP : ∀ a b, P a -> P b -> P (avg x a b))
include hP
end
theorem halves (n k j : Nat) : k * 2 ^ (n + 1) <= j /\ j < (k + 1) * 2 ^ (n + 1) ↔ (2 * k * 2 ^ n <= j /\ j < (2 * k + 1) * 2 ^ n) ∨ ((2 * k + 1) * 2 ^ n <= j /\ j < (2 * k + 1 + 1) * 2 ^ n) := by
 have e0 : 2 ^ (n + 1) = 2 * 2 ^ n := by rw [Nat.pow_succ, Nat.mul_comm]
 have e1 : 2 * k * 2 ^ n = k * 2 ^ (n + 1) := by rw [e0, <- Nat.mul_assoc, Nat.mul_comm 2 k]
 have e2 : (2 * k + 1) * 2 ^ n = k * 2 ^ (n + 1) + 2 ^ n := by rw [Nat.add_mul, e1, Nat.one_mul]
 have e3 : (2 * k + 1 + 1) * 2 ^ n = k * 2 ^ (n + 1) + 2 ^ n + 2 ^ n := by rw [Nat.add_mul, e2, Nat.one_mul]
 have e4 : (k + 1) * 2 ^ (n + 1) = k * 2 ^ (n + 1) + 2 ^ n + 2 ^ n := by rw [Nat.add_mul, Nat.one_mul, e0]; omega
 omega
end Go.Am.Bern

/- Bern: the law BernPositive. -/
namespace Go.Am.Bern
open Go Go.Am Go.Proofs
end Go.Am.Bern

/- Bern: the law BernRoots. -/
namespace Go.Am.Bern
open Go Go.Am Go.Proofs
end Go.Am.Bern

/- Bern: changes of sign: what does not raise them. -/
namespace Go.Am.Bern
open Go Go.Am Go.Proofs
end Go.Am.Bern

/- Bern: changes of sign under division and raising. -/
namespace Go.Am.Bern
open Go Go.Am Go.Proofs
def nm (l : List Rat) : List Int := l.map (·.num)
end Go.Am.Bern

/- Bern: corners and values: averages of sequences. -/
namespace Go.Am.Bern
open Go Go.Am Go.Proofs
end Go.Am.Bern

/- Bern: corners of a piece give the polynomial's values on it. -/
namespace Go.Am.Bern
open Go Go.Am Go.Proofs
end Go.Am.Bern

/- Bern: the corners on the whole give the polynomial. -/
namespace Go.Am.Bern
open Go Go.Am Go.Proofs
def cR (i k : Nat) : Rat := (ch i k : Rat)
theorem term_cR (p : List Int) (n i k : Nat) : term p n i k = (p.getD k 0 : Rat) / cR n k * cR i k := by
 unfold term cR
 rw [Rat.divInt_eq_div]; push_cast; grind
end Go.Am.Bern

/- Bern: positive pieces, low points. -/
namespace Go.Am.Bern
open Go Go.Am Go.Proofs
end Go.Am.Bern

/- Bern: counts and changes of sign. -/
namespace Go.Am.Bern
open Go Go.Am Go.Proofs
end Go.Am.Bern

/- Bern: the count of pieces has the parity of the changes of sign. -/
namespace Go.Am.Bern
open Go Go.Am Go.Proofs
end Go.Am.Bern

/- Bern: the corners of the mirrored polynomial. -/
namespace Go.Am.Bern
theorem m1 (a : Int) : whole (mir [a]) = (whole [a]).reverse := by
 simp [whole, mir, mK, mrow, wsum, ch, sg, List.range, List.range.loop, term_cR, cR]
theorem m2 (a b : Int) : whole (mir [a, b]) = (whole [a, b]).reverse := by
 simp [whole, mir, mK, mrow, wsum, ch, sg, List.range, List.range.loop, term_cR, cR]
 grind
end Go.Am.Bern

/- Bern: pieces of the mirrored polynomial. -/
namespace Go.Am.Bern
end Go.Am.Bern

/- Bern: changes of sign, read backwards. -/
namespace Go.Am.Bern
def fz : List Int -> Int
 | [] => 0
 | a :: l => if a = 0 then fz l else a
end Go.Am.Bern

/- Bern: readings of the mirrored polynomial. -/
namespace Go.Am.Bern
end Go.Am.Bern

/- Bern: the mirrored polynomial is plain, positive, as the polynomial is. -/
namespace Go.Am.Bern
end Go.Am.Bern

/- Bern: the law BernDescartes. -/
namespace Go.Am.Bern
open Go Go.Am Go.Proofs
end Go.Am.Bern

/- Bern: the least and the greatest of a list; values between them. -/
namespace Go.Am.Bern
end Go.Am.Bern

/- Bern: facts for BernLorentz. -/
namespace Go.Am.Bern
theorem gcd_qp (r : Rat) : gcdR r.num r.den = 1 := by
 unfold gcdR
 have : Int.gcd r.num r.den = 1 := r.reduced
 rw [this]; try rfl
theorem isGiv_frac {a b : Int} (ha : -1000 <= a /\ a <= 1000) (hb : 1 <= b) (h : (240 : Int).tmod b = 0) : isGiv (fracR a b) := by
 rw [fracR_eq (by omega)]
 have hf : fr b 1000 (Rat.divInt a b) := ⟨a, rfl, ha.1, ha.2⟩
 have := hf.spec (by omega)
 have hd : b ∣ 240 := Int.dvd_of_tmod_eq_zero h
 have hden := (Rat.divInt a b).den_pos
 exact ⟨by rw [qp_fst]; omega, by rw [qp_fst]; omega, by rw [qp_snd]; omega, by rw [qp_snd]; exact Int.tmod_eq_zero_of_dvd (Int.dvd_trans this.1 hd), gcd_qp _⟩
theorem crn_giv (x : Int × Int) : isGiv (crn x) := by
 have h := den6_range x
 have hu := u64_nn x.1
 have e4 : (u64 x.1).tmod 2001 = u64 x.1 % 2001 := Int.tmod_eq_emod_of_nonneg hu.1
 exact isGiv_frac (by omega) h.1 h.2.2
theorem crnL_given (l : List PQ) {m : Nat} (h : 1 <= m) : given (crnL l m) m := by
 unfold crnL
 split
 · exact ⟨fun x hx => by
     rcases List.mem_singleton.mp hx with rfl
     exact ⟨by decide, by decide, by decide, by decide, by decide⟩, by simp, by simp; omega⟩
 · rename_i hn
   have hl : 1 <= l.length := by
     rcases Nat.eq_zero_or_pos l.length with h0 | h0
     · exact absurd (.inl (List.length_eq_zero_iff.mp h0)) hn
     · exact h0
   refine ⟨fun x hx => ?_, ?_, ?_⟩
   · obtain ⟨y, _, rfl⟩ := List.mem_map.mp hx
     exact crn_giv y
   · rw [List.length_map, List.length_take]; omega
   · rw [List.length_map, List.length_take]; omega
end Go.Am.Bern

/- Bern: extremes; entries for BernLorentz. -/
namespace Go.Am.Bern
open Go Go.Am Go.Proofs
theorem call44 (l : List (Int × Int)) (h : 1 <= l.length /\ l.length < 1000000000000000 /\ lessOk l) : GCall Tryd.prog gl 44 true [.sl Q2 l] [] [ofD Q2 (lowL l l.length), ofD Q2 (highL l l.length)] [] := by
 refine gcall_of (X := (X44)) ((Xd_ok _ _)) (f := 44) (fn := Tryd.f44) (c := bodyOf Tryd.f44) (by kernel_rfl) (by kernel_rfl) (view := false) (rvs := [.cell 2 48, .cell 3 48]) (by kernel_rfl) (H := (H44 l)) 80 (by kernel_rfl) ?_
 have hL := loop44 l h.2.1 h.2.2
 refine of_eq (q := True /\ True /\ True /\ idxPre (0 : Int) l.length /\ True /\ True /\ idxPre (0 : Int) l.length /\ True /\ True /\ True /\ True /\ True /\ True /\ LoopOK X44 L44_0 { J := chk (0 : Nat) [(0 : Nat), (2 : Nat), (3 : Nat), (4 : Nat), (5 : Nat), (6 : Nat)] (inv44 l) (st44 l), exits := List.map (fun (x : List Nat × Ex) => x.snd) (ex44 l) } (RetR X44 true false [ResultVar.cell (2 : Tmp) (48 : TypeId), ResultVar.cell (3 : Tmp) (48 : TypeId)] [ofD Q2 (lowL l l.length), ofD Q2 (highL l l.length)] []) /\ (∃ (y : Nat), inv44 l y /\ (l = l /\ True /\ True /\ True /\ True /\ (1 : Int) = (y : Int) /\ True) /\ [(0 : Int), (0 : Int)] = [(0 : Int), (0 : Int)] /\ [(0 : Int), (0 : Int)] = [(0 : Int), (0 : Int)] /\ [(l.getD (0 : Nat) (0, 0)).fst, (l.getD (0 : Nat) (0, 0)).snd] = [(lowL l y).fst, (lowL l y).snd] /\ [(l.getD (0 : Nat) (0, 0)).fst, (l.getD (0 : Nat) (0, 0)).snd] = [(highL l y).fst, (highL l y).snd] /\ True) /\ (∀ (y : Unit), True -> ((True /\ (True /\ (True /\ (True /\ (True /\ True /\ True /\ True /\ [(lowL l l.length).fst, (lowL l l.length).snd] = [(lowL l l.length).fst, (lowL l l.length).snd] /\ [(highL l l.length).fst, (highL l l.length).snd] = [(highL l l.length).fst, (highL l l.length).snd] /\ True) /\ [(lowL l l.length).fst, (lowL l l.length).snd] = [(lowL l l.length).fst, (lowL l l.length).snd] /\ [(highL l l.length).fst, (highL l l.length).snd] = [(highL l l.length).fst, (highL l l.length).snd] /\ [(lowL l l.length).fst, (lowL l l.length).snd] = [(lowL l l.length).fst, (lowL l l.length).snd] /\ [(highL l l.length).fst, (highL l l.length).snd] = [(highL l l.length).fst, (highL l l.length).snd] /\ True) /\ True) /\ True) /\ (True /\ (True /\ (True /\ (True /\ True /\ True /\ True /\ [(lowL l l.length).fst, (lowL l l.length).snd] = [(lowL l l.length).fst, (lowL l l.length).snd] /\ [(highL l l.length).fst, (highL l l.length).snd] = [(highL l l.length).fst, (highL l l.length).snd] /\ True) /\ [(lowL l l.length).fst, (lowL l l.length).snd] = [(lowL l l.length).fst, (lowL l l.length).snd] /\ [(highL l l.length).fst, (highL l l.length).snd] = [(highL l l.length).fst, (highL l l.length).snd] /\ [(lowL l l.length).fst, (lowL l l.length).snd] = [(lowL l l.length).fst, (lowL l l.length).snd] /\ [(highL l l.length).fst, (highL l l.length).snd] = [(highL l l.length).fst, (highL l l.length).snd] /\ True) /\ True) /\ True) /\ True) /\ (True /\ (True /\ (True /\ (True /\ (True /\ True /\ True /\ True /\ [(lowL l l.length).fst, (lowL l l.length).snd] = [(lowL l l.length).fst, (lowL l l.length).snd] /\ [(highL l l.length).fst, (highL l l.length).snd] = [(highL l l.length).fst, (highL l l.length).snd] /\ True) /\ [(lowL l l.length).fst, (lowL l l.length).snd] = [(lowL l l.length).fst, (lowL l l.length).snd] /\ [(highL l l.length).fst, (highL l l.length).snd] = [(highL l l.length).fst, (highL l l.length).snd] /\ [(lowL l l.length).fst, (lowL l l.length).snd] = [(lowL l l.length).fst, (lowL l l.length).snd] /\ [(highL l l.length).fst, (highL l l.length).snd] = [(highL l l.length).fst, (highL l l.length).snd] /\ True) /\ True) /\ True) /\ True) /\ True) /\ (True /\ True /\ True) /\ ([(lowL l l.length).fst, (lowL l l.length).snd] = [(lowL l l.length).fst, (lowL l l.length).snd] /\ [(highL l l.length).fst, (highL l l.length).snd] = [(highL l l.length).fst, (highL l l.length).snd] /\ True) /\ True) /\ True) (by kernel_rfl) ?_
 have e1 : lowL l 1 = l.getD 0 (0, 0) := by
   have := lowL_step (l := l) (k := 0) (by omega)
   have e : lowL l 0 = l.getD 0 (0, 0) := rfl
   rw [this, e]; split <;> rfl
 have e2 : highL l 1 = l.getD 0 (0, 0) := by
   have := highL_step (l := l) (k := 0) (by omega)
   have e : highL l 0 = l.getD 0 (0, 0) := rfl
   rw [this, e]; split <;> rfl
 simp only [zz]
 refine ⟨by unfold idxPre; omega, by unfold idxPre; omega, hL _, ?_⟩
 refine ⟨⟨1, ⟨by omega, by omega⟩, rfl, by rw [e1], by rw [e2]⟩, fun _ _ => trivial⟩
structure InRound (p : List Int) (q : PQ) (i : Nat) : Prop where
 hp : isPoly p
 hq : isPiece q
 hi : i <= 2
 h6 : q.1.toNat = 6 -> i = 0
structure LessNo (x y : PQ) : Prop where
 gx : good x
 gy : good y
 ok : addOk (rat x) (-rat y)
 no : ¬ rat x < rat y
end Go.Am.Bern

/- Bern: the law BernLorentz: its loops. -/
namespace Go.Am.Bern
open Go Go.Am Go.Proofs
end Go.Am.Bern

/- Bern: functions whose results are new memory. -/
namespace Go.Am.Bern
open Go Go.Am Go.Proofs
def oQ (l : List PQ) : Ob := .sc 0 48 Q2 l
def oI (l : List Int) : Ob := .sc 0 3 I64 l
noncomputable def Xo (l : EL) (m0 : Nat) (hs : Nat -> Bool) (dr : Nat -> Option Nat) : Cy := { mkX Tryd.prog tt gl l m0 dr with hs := hs }
theorem Xo_ok (l : EL) (m0 : Nat) (hs : Nat -> Bool) (dr : Nat -> Option Nat) : (Xo l m0 hs dr).Ok := have h := mkX_ok tt_ok l m0 dr; { tt := h.tt, Γ := h.Γ, Γd := h.Γd, Yl := h.Yl }
theorem call58o (l : List PQ) (h : (l : List PQ).length < 1000000 /\ l ≠ []) : GCall Tryd.prog gl 58 true [.sl FR l] [] [.own 0 0] [oQ l] := by
 refine gcall_of (X := X [e76]) (X_ok [e76]) (f := 58) (fn := Tryd.f58) (c := bodyOf Tryd.f58) (by kernel_rfl) (by kernel_rfl) (view := false) (rvs := [.tmp 2]) (by kernel_rfl) (H := (H58 l)) 80 (by kernel_rfl) ?_
 have hL := loop58 l h.1
 refine of_eq (q := (fun (b : Prop) => (fun (a : Prop) => a /\ a /\ a /\ a /\ a /\ LoopOK (X [e76]) L58_0 { J := chks (0 : Nat) [(3 : Nat), (6 : Nat), (7 : Nat), (8 : Nat)] (fm58 l), exits := List.map (fun (x : List Nat × Ex) => x.snd) (ex58 l) } (RetR (X [e76]) true false [ResultVar.tmp (2 : Tmp)] [AV.own (0 : Nat) (0 : Nat)] [oQ l]) /\ ((∃ (y : Unit), a /\ (a /\ l = l /\ b /\ (0 : Int) = 0 /\ a) /\ a) ∨ ∃ (y : Nat), y <= l.length /\ (False /\ l = l /\ b /\ (0 : Int) = (y : Int) /\ a) /\ False) /\ (∀ (y : Unit), l = [] -> a /\ a /\ a /\ (False /\ a) /\ False) /\ (∀ (y : Unit), a -> a /\ a /\ a /\ (a /\ a) /\ l = l /\ a) /\ a) (True)) ((l.length : Int) = (l.length : Int))) (by kernel_rfl) ?_
 simp only [zz]
 exact ⟨hL _, fun _ h0 => h.2 h0, fun _ _ => trivial⟩
def e58o : Entry Tryd.prog gl := entry1 58 ⟨Tryd.f58, by kernel_rfl, by kernel_rfl, by kernel_rfl⟩ SF (fun l => (l : List PQ).length < 1000000 /\ l ≠ []) true (fun _ => [.own 0 0]) (fun l => [oQ l]) call58o
theorem call78o (l : List Int) (h : (1 <= l.length /\ l.length < 1000000) /\ coefs l) : GCall Tryd.prog gl 78 false [.own 0 0] [oI l] [.own 0 0, .int .i64 0] [oI l] := by
 refine gcall_of (X := (Xo [e89,e90] 1 (fun _ => false) (fun _ => none))) ((Xo_ok _ _ _ _)) (f := 78) (fn := Tryd.f78) (c := bodyOf Tryd.f78) (by kernel_rfl) (by kernel_rfl) (view := false) (rvs := [.tmp 2, .tmp 3]) (by kernel_rfl) (H := fun _ => none) 80 (by kernel_rfl) ?_
 refine of_eq (q := (fun (b : Prop) => (fun (c : Prop) => (fun (a : Prop) => b /\ b /\ b /\ c /\ b /\ b /\ (minL l < (-100 : Int) -> b /\ a) /\ (¬minL l < (-100 : Int) -> b /\ c /\ b /\ b /\ ((100 : Int) < maxL l -> a) /\ (¬(100 : Int) < maxL l -> b /\ b /\ b /\ b /\ (b /\ (0 : Int) = 0 /\ b) /\ l = l /\ b))) (b /\ b /\ b /\ (False /\ (8 : Int) = 0 /\ b) /\ l = l /\ b)) (((1 : Nat) <= l.length /\ l.length < 1000000) /\ b)) (True)) (by kernel_rfl) ?_
 simp only [zz]
 have hc := coefs_iff h.1.1
 have := h.1
 have := hc.mp h.2
 exact ⟨h.1, fun h2 => by omega, fun _ => ⟨h.1, fun h2 => by omega, fun _ => trivial⟩⟩
def get78o (_ : List AV) (obs : List Ob) : Option (List Int) :=
 match obs with
 | [.sc _ _ e l] => castL e I64 l
 | _ => none
def e78o : Entry Tryd.prog gl := entryW 78 ⟨Tryd.f78, by kernel_rfl, by kernel_rfl, by kernel_rfl⟩ true get78o (fun l => (1 <= l.length /\ l.length < 1000000) /\ coefs l) false (fun _ => [.own 0 0]) (fun l => [oI l]) (fun _ => [.own 0 0, .int .i64 0]) (fun l => [oI l]) call78o
theorem call32o (p : List Int) (h : isPoly p /\ coefs (mir p)) : GCall Tryd.prog gl 32 true [.sl I64 p] [] [.own 0 0, .int .i64 0] [oI (mir p)] := by
 refine gcall_of (X := X [e56,e77,e78o]) (X_ok [e56,e77,e78o]) (f := 32) (fn := Tryd.f32) (c := bodyOf Tryd.f32) (by kernel_rfl) (by kernel_rfl) (view := false) (rvs := [.tmp 2, .tmp 3]) (by kernel_rfl) (H := (H32 p)) 80 (by kernel_rfl) ?_
 have hL := loop32 p
 refine of_eq (q := (fun (e : Int) => (fun (d : Prop) => (fun (c : Int) => (fun (b : Prop) => (fun (a : List Int) => b /\ b /\ b /\ (p.length + 1 <= 1000000 /\ b) /\ b /\ b /\ b /\ (¬d -> b /\ b /\ b /\ b /\ (False /\ d /\ b) /\ False) /\ (¬¬d -> b /\ b /\ (e <= c /\ c <= c /\ c * (↑(nat_lit 8) : Int) <= 140737488355328 /\ c <= 140737488355328) /\ b /\ b /\ b /\ b /\ LoopOK (X [e56, e77, e78]) L32_0 { J := chk (0 : Nat) [(5 : Nat), (18 : Nat), (19 : Nat), (20 : Nat)] (inv52 p) (st32 p), exits := List.map (fun (x : List Nat × Ex) => x.snd) (ex32 p) } (RetR (X [e56, e77, e78o]) true false [ResultVar.tmp (2 : Tmp), ResultVar.tmp (3 : Tmp)] [AV.own (0 : Nat) (0 : Nat), AV.int .i64 e] [oI (mir p)]) /\ (∃ (y : Nat), inv52 p y /\ (b /\ p = p /\ c = (p.length : Int) /\ e = (y : Int) /\ b) /\ List.replicate p.length (Ty.int .i64).dflt = mK p y /\ b) /\ (∀ (y : Unit), b -> b /\ (((((1 : Nat) <= a.length /\ a.length < 1000000) /\ coefs a) /\ (b /\ b) /\ a = a /\ b) /\ a.length = a.length /\ b) /\ b /\ b /\ b /\ b /\ b /\ (b /\ e = e /\ b) /\ a = mir p /\ b) /\ b)) (mK p p.length)) (True)) ((p.length : Int))) (errOf p = e)) ((0 : Int))) (by kernel_rfl) ?_
 simp only [zz]
 obtain ⟨hy, hc⟩ := h
 have h1 := hy.1
 have h2 := hy.2.1
 have h3 := mK_length p p.length
 exact ⟨by omega, fun he => he (by simp [errOf, hy]), fun _ => ⟨by omega, hL hy _, ⟨0, Nat.zero_le _, rfl, rfl⟩, fun _ _ => ⟨⟨by omega, hc⟩, rfl⟩⟩⟩
def e32o : Entry Tryd.prog gl := entry1 32 ⟨Tryd.f32, by kernel_rfl, by kernel_rfl, by kernel_rfl⟩ SI (fun p => isPoly p /\ coefs (mir p)) true (fun _ => [.own 0 0, .int .i64 0]) (fun p => [oI (mir p)]) call32o
noncomputable abbrev X35 : Cy := Xo [e80,e83,e58o] 0 (fun t => Nat.beq t 2 || Nat.beq t 24) (drOf [(5, 506)])
theorem call35o (l : List PQ) (hy : yG l 7) : GCall Tryd.prog gl 35 true [.sl Q2 l] [] [.agg [.own 0 0, .own 1 0], .int .i64 0] [oQ (qs (dvL (rat (1, 2)) (rats l))), oQ (qs (dvR (rat (1, 2)) (rats l)))] := by
 refine gcall_of (X := X35) ((Xo_ok _ _ _ _)) (f := 35) (fn := Tryd.f35) (c := bodyOf Tryd.f35) (by kernel_rfl) (by kernel_rfl) (view := false) (rvs := [.cell 2 58, .tmp 3]) (by kernel_rfl) (H := fun _ => none) 80 (by kernel_rfl) ?_
 refine of_eq (q := (fun (f : Int) => (fun (e : Bool) => (fun (d : Prop) => (fun (c : Rat) => (fun (a : List Rat) => d /\ d /\ d /\ (l.length + 1 <= 1000000 /\ d) /\ d /\ d /\ d /\ d /\ d /\ d /\ d /\ (e = true -> d /\ False) /\ (e = false -> d /\ d /\ ((goodL (openR l (7 : Int)) /\ good (f, (2 : Int)) /\ ∃ (D : Int), ∃ (M : Int), ∃ (b : Int), Dv D M b c a) /\ d) /\ d /\ d /\ idxPre (0 : Int) (2 : Nat) /\ d /\ ((qs (dvL c a)).length < 1000000 /\ ¬qs (dvL c a) = []) /\ idxPre f (2 : Nat) /\ d /\ ((qs (dvR c a)).length < 1000000 /\ ¬qs (dvR c a) = []) /\ d /\ d /\ d /\ (d /\ d) /\ ((d /\ d /\ d) /\ (0 : Int) = 0 /\ d) /\ qs (dvL c a) = qs (dvL (rat (f, (2 : Int))) (rats l)) /\ qs (dvR c a) = qs (dvR (rat (f, (2 : Int))) (rats l)) /\ d)) (rats (openR l (7 : Int)))) (rat (f, (2 : Int)))) (True)) (!decide (given l (7 : Int)))) ((1 : Int))) (by kernel_rfl) ?_
 simp only [zz]
 have h := hy.2
 have hl := hy.1
 have e : openR l 7 = l := by simp [openR, h]
 have h3 := rats_length l
 have h4 := h.2
 rw [e]
 have hd := given_dv h (by omega) point_half
 have n1 : ∀ q : List Rat, q.length = (rats l).length -> qs q ≠ [] := fun q hq e2 => by
   have := congrArg List.length e2
   rw [qs_length, hq, h3] at this
   have h5 : l.length = 0 := this
   omega
 exact ⟨by omega, fun h5 => by simp [h] at h5, fun _ => ⟨⟨(given_facts h).1, good_half, _, _, _, hd⟩, i02, ⟨by rw [qs_length, dvL_length]; omega, n1 _ (dvL_length _ _)⟩, i12, ⟨by rw [qs_length, dvR_length]; omega, n1 _ (dvR_length _ _)⟩, rfl, rfl⟩⟩
noncomputable abbrev X34o : Cy := Xd [e80, e74, e81, e82, e58o] (drOf [(9, 22)])
theorem call34o (l : List PQ) (hy : yG l 6) : GCall Tryd.prog gl 34 true [.sl Q2 l] [] [.own 0 0, .int .i64 0] [oQ (qs (raise (rats l)))] := by
 refine gcall_of (X := X34o) ((Xd_ok _ _)) (f := 34) (fn := Tryd.f34) (c := bodyOf Tryd.f34) (by kernel_rfl) (by kernel_rfl) (view := false) (rvs := [.tmp 2, .tmp 3]) (by kernel_rfl) (H := (H34 (rats l))) 80 (by kernel_rfl) ?_
 have hL := loop34 (rats l)
 refine of_eq (q := (fun (j : Nat) => (fun (h : Bool) => (fun (f : Int) => (fun (e : List (Int × Int)) => (fun (c : Prop) => (fun (b : List Rat) => (fun (g : Int) => (fun (d : List (Int × Int)) => (fun (a : Int × Int) => (fun (i : Int × Int) => c /\ c /\ c /\ (l.length + 1 <= 1000000 /\ c) /\ c /\ c /\ c /\ c /\ c /\ c /\ c /\ (h = true -> c /\ c /\ c /\ (False /\ (1 : Int) = f /\ c) /\ False) /\ (h = false -> c /\ c /\ c /\ c /\ idxPre f e.length /\ c /\ c /\ c /\ c /\ LoopOK X34 L34_0 { J := chk j [(4 : Nat), (6 : Nat), (7 : Nat), (8 : Nat)] (inv34 b) (st34 b), exits := List.map (fun (x : List Nat × Ex) => x.snd) (ex34 b) } (RetR X34o true false [ResultVar.tmp (2 : Tmp), ResultVar.tmp (3 : Tmp)] [AV.own j j, AV.int .i64 f] [oQ (qs (raise b))]) /\ (∃ (y : Nat), inv34 b y /\ (e = qs b /\ (e.length : Int) = (b.length : Int) /\ c /\ (1 : Int) = (y : Int) /\ c) /\ [((e.getD j (f, f)).fst, (e.getD j (f, f)).snd)] = qs (rzs b y) /\ c) /\ (∀ (y : Unit), c -> c /\ c /\ c /\ inR .i64 g /\ idxPre g (qs b).length /\ c /\ c /\ sumPre d.length [i].length (nat_lit 16) /\ (((d ++ [i]).length < 1000000 /\ d ++ [i] ≠ []) /\ c) /\ c /\ c /\ c /\ (c /\ f = f /\ c) /\ d ++ [i] = qs (raise b) /\ c) /\ c)) ((a.fst, a.snd))) ((qs b).getD g.toNat (f, f))) (qs (rzs b b.length))) ((b.length : Int) - 1)) (rats l)) (True)) (openR l (6 : Int))) ((0 : Int))) (!decide (given l (6 : Int)))) ((0 : Nat))) (by kernel_rfl) ?_
 simp only [zz]
 have h := hy.2
 have hl := hy.1
 have e : openR l 6 = l := by simp [openR, h]
 have hg := given_facts h
 have h3 := rats_length l
 have h4 := h.2
 have hgl : qs (rats l) = l := hg.1
 have hq := qs_length (rzs (rats l) (rats l).length)
 have hr := rzs_length (rats l) (rats l).length
 have e1 : (((rats l).length : Int) - 1).toNat = (rats l).length - 1 := by omega
 have e2 : l.getD 0 (0, 0) = qp ((rats l).getD 0 0) := by have := qs_getD (l := rats l) (k := 0) (by omega); rwa [hgl] at this
 have e3 : l.getD ((rats l).length - 1) (0, 0) = qp ((rats l).getD ((rats l).length - 1) 0) := by have := qs_getD (l := rats l) (k := (rats l).length - 1) (by omega); rwa [hgl] at this
 have hlen : (qs (rzs (rats l) (rats l).length) ++ [qp ((rats l).getD ((rats l).length - 1) 0)]).length = (rats l).length + 1 := by rw [List.length_append, qs_length, rzs_length]; try rfl
 rw [e, hgl, e1, e2, e3]
 refine ⟨by omega, fun h5 => by simp [h] at h5, fun _ => ⟨by unfold idxPre; omega, hL hg.2 (by omega) _, ⟨1, ⟨by omega, by omega⟩, ⟨rfl, by omega, rfl⟩, ?_⟩, fun _ _ => ⟨by simp only [inR]; omega, by unfold idxPre; omega, by unfold sumPre; rw [qs_length, rzs_length]; simp; omega, ⟨Nat.lt_of_le_of_lt (Nat.le_of_eq hlen) (by omega), fun e5 => ?_⟩, ?_⟩⟩⟩
 · simp only [rzs, List.range_one, List.map_cons, List.map_nil, qs]
   rw [rz_first (by omega)]
   try rfl
 · exact absurd ((congrArg List.length e5).symm.trans hlen) (by rw [List.length_nil]; omega)
 · rw [raise, rzs_step, rz_last (by omega)]
   simp [qs]; try rfl
def e35o : Entry Tryd.prog gl := entry1 35 ⟨Tryd.f35, by kernel_rfl, by kernel_rfl, by kernel_rfl⟩ SQ (fun l => yG l 7) true (fun _ => [.agg [.own 0 0, .own 1 0], .int .i64 0]) (fun l => [oQ (qs (dvL (rat (1, 2)) (rats l))), oQ (qs (dvR (rat (1, 2)) (rats l)))]) call35o
def e34o : Entry Tryd.prog gl := entry1 34 ⟨Tryd.f34, by kernel_rfl, by kernel_rfl, by kernel_rfl⟩ SQ (fun l => yG l 6) true (fun _ => [.own 0 0, .int .i64 0]) (fun l => [oQ (qs (raise (rats l)))]) call34o
end Go.Am.Bern
