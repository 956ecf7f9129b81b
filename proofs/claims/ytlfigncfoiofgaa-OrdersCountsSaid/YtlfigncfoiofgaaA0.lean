/- Part A0 of the proof that the law named in the last file returns true at every input and leaves its arguments as they were; no condition of its own. -/
import Derived.WalkKit
import Derived.Maps.AppendAt
import Derived.KernelRfl
import Derived.ChangeKeysEq
import Derived.Laws.Slices
set_option linter.unusedSimpArgs false
set_option linter.unusedVariables false
/- The abstract machine, part 0: typed data, values, and what they say of cells. -/
namespace Go.Am
open Go
inductive Ty
 | int (k : IntKind) | bool | str
 | sl (e : Ty) | ar (n : Nat) (e : Ty) | a2 (e : Ty)
 | s1 (a : Ty) | s2 (a b : Ty) | s3 (a b c : Ty) | s4 (a b c d : Ty)
 deriving DecidableEq
@[reducible] def Ty.D : Ty → Type
 | .int _ => Int
 | .bool => Bool
 | .str => ByteArray
 | .sl e => List e.D
 | .ar _ e => List e.D
 | .a2 e => e.D × e.D
 | .s1 a => a.D
 | .s2 a b => a.D × b.D
 | .s3 a b c => a.D × b.D × c.D
 | .s4 a b c d => a.D × b.D × c.D × d.D
def Ty.dflt : (t : Ty) → t.D
 | .int _ => (0 : Int)
 | .bool => false
 | .str => (⟨#[]⟩ : ByteArray)
 | .sl _ => []
 | .ar n e => List.replicate n e.dflt
 | .a2 e => (e.dflt, e.dflt)
 | .s1 a => a.dflt
 | .s2 a b => (a.dflt, b.dflt)
 | .s3 a b c => (a.dflt, b.dflt, c.dflt)
 | .s4 a b c d => (a.dflt, b.dflt, c.dflt, d.dflt)
/-- Shapes: how many cells, and where the parts lie. -/
inductive Sh
 | cell
 | node (l : List Sh)
 | arr (n : Nat) (e : Sh)
mutual
def Sh.sz : Sh → Nat
 | .cell => 1
 | .node l => Sh.szs l
 | .arr n e => n * e.sz
def Sh.szs : List Sh → Nat
 | [] => 0
 | s :: l => s.sz + Sh.szs l
end
mutual
def Sh.beq : Sh → Sh → Bool
 | .cell, .cell => true
 | .node l, .node m => Sh.beqs l m
 | .arr n e, .arr m f => Nat.beq n m && e.beq f
 | _, _ => false
def Sh.beqs : List Sh → List Sh → Bool
 | [], [] => true
 | a :: l, b :: m => a.beq b && Sh.beqs l m
 | _, _ => false
end
mutual
theorem Sh.eq_of_beq : ∀ (a b : Sh), a.beq b = true → a = b
 | .cell, .cell, _ => rfl
 | .node l, .node m, h => congrArg _ (Sh.eq_of_beqs l m (by simpa [Sh.beq] using h))
 | .arr n e, .arr m f, h => by
   simp only [Sh.beq, Bool.and_eq_true] at h
   have h1 := Nat.eq_of_beq_eq_true h.1
   have h2 := Sh.eq_of_beq e f h.2
   rw [h1, h2]
 | .cell, .node _, h => by simp [Sh.beq] at h
 | .cell, .arr _ _, h => by simp [Sh.beq] at h
 | .node _, .cell, h => by simp [Sh.beq] at h
 | .node _, .arr _ _, h => by simp [Sh.beq] at h
 | .arr _ _, .cell, h => by simp [Sh.beq] at h
 | .arr _ _, .node _, h => by simp [Sh.beq] at h
theorem Sh.eq_of_beqs : ∀ (a b : List Sh), Sh.beqs a b = true → a = b
 | [], [], _ => rfl
 | x :: l, y :: m, h => by
   simp only [Sh.beqs, Bool.and_eq_true] at h
   have h1 := Sh.eq_of_beq x y h.1
   have h2 := Sh.eq_of_beqs l m h.2
   rw [h1, h2]
 | [], _ :: _, h => by simp [Sh.beqs] at h
 | _ :: _, [], h => by simp [Sh.beqs] at h
end
def Ty.sh : Ty → Sh
 | .int _ | .bool | .str | .sl _ => .cell
 | .ar n e => .arr n e.sh
 | .a2 e => .arr 2 e.sh
 | .s1 a => .node [a.sh]
 | .s2 a b => .node [a.sh, b.sh]
 | .s3 a b c => .node [a.sh, b.sh, c.sh]
 | .s4 a b c d => .node [a.sh, b.sh, c.sh, d.sh]
def Ty.sz (t : Ty) : Nat := t.sh.sz
def CellsAt (w : World) (a : Addr) (cs : List Value) : Prop := ∀ j (h : j < cs.length), w.cell? (a.add j) = some cs[j]
/-- Data in cells; what slices lead to lies in blocks of F. -/
def CD (F : Nat → Prop) (w : World) : (t : Ty) → t.D → List Value → Prop
 | .int k, x, cs => cs = [.int k x]
 | .bool, x, cs => cs = [.bool x]
 | .str, x, cs => cs = [.string x]
 | .sl e, xs, cs => ∃ A c, cs = [.slice A (xs : List e.D).length c] ∧ (xs.length ≤ c ∧ xs.length ≤ 140737488355328) ∧
     ∀ i (h : i < (xs : List e.D).length), ∃ ad ecs, A = some ad ∧ F ad.block ∧ CD F w e xs[i] ecs ∧ CellsAt w (ad.add (i * e.sz)) ecs
 | .ar n e, xs, cs => (xs : List e.D).length = n ∧ ∃ css : List (List Value), css.length = n ∧ cs = css.flatten ∧
     ∀ i (h : i < (xs : List e.D).length) (h' : i < css.length), CD F w e xs[i] css[i]
 | .a2 e, x, cs => ∃ c1 c2, cs = c1 ++ c2 ∧ CD F w e x.1 c1 ∧ CD F w e x.2 c2
 | .s1 a, x, cs => CD F w a x cs
 | .s2 a b, x, cs => ∃ c1 c2, cs = c1 ++ c2 ∧ CD F w a x.1 c1 ∧ CD F w b x.2 c2
 | .s3 a b c, x, cs => ∃ c1 c2 c3, cs = c1 ++ (c2 ++ c3) ∧ CD F w a x.1 c1 ∧ CD F w b x.2.1 c2 ∧ CD F w c x.2.2 c3
 | .s4 a b c d, x, cs => ∃ c1 c2 c3 c4, cs = c1 ++ (c2 ++ (c3 ++ c4)) ∧ CD F w a x.1 c1 ∧ CD F w b x.2.1 c2 ∧ CD F w c x.2.2.1 c3 ∧ CD F w d x.2.2.2 c4
theorem flatten_length {css : List (List Value)} {n k : Nat} (hn : css.length = n) (h : ∀ i (h' : i < css.length), css[i].length = k) : css.flatten.length = n * k := by
 induction css generalizing n with
 | nil => simp at hn; subst hn; simp
 | cons c l ih =>
   simp only [List.length_cons] at hn
   subst hn
   have h0 := h 0 (by simp)
   simp at h0
   simp only [List.flatten_cons, List.length_append, h0, Nat.succ_mul]
   rw [ih rfl (fun i hi => by have := h (i + 1) (by simpa using hi); simpa using this)]
   omega
theorem CD.len {F : Nat → Prop} {w : World} : ∀ {t : Ty} {x : t.D} {cs : List Value}, CD F w t x cs → cs.length = t.sz
 | .int _, _, _, h => by simp only [CD] at h; subst h; rfl
 | .bool, _, _, h => by simp only [CD] at h; subst h; rfl
 | .str, _, _, h => by simp only [CD] at h; subst h; rfl
 | .sl _, _, _, h => by simp only [CD] at h; obtain ⟨_, _, rfl, _⟩ := h; rfl
 | .ar n e, xs, cs, h => by
   simp only [CD] at h
   obtain ⟨hl, css, hc, rfl, h⟩ := h
   rw [flatten_length hc (fun i hi => (h i (by omega) hi).len)]
   rfl
 | .a2 e, x, cs, h => by
   simp only [CD] at h
   obtain ⟨c1, c2, rfl, h1, h2⟩ := h
   simp only [List.length_append, h1.len, h2.len, Ty.sz, Ty.sh, Sh.sz]; omega
 | .s1 a, x, cs, h => by
   simp only [CD] at h
   rw [h.len]; simp [Ty.sz, Ty.sh, Sh.sz, Sh.szs]
 | .s2 a b, x, cs, h => by
   simp only [CD] at h
   obtain ⟨c1, c2, rfl, h1, h2⟩ := h
   simp [List.length_append, h1.len, h2.len, Ty.sz, Ty.sh, Sh.sz, Sh.szs]
 | .s3 a b c, x, cs, h => by
   simp only [CD] at h
   obtain ⟨c1, c2, c3, rfl, h1, h2, h3⟩ := h
   simp [List.length_append, h1.len, h2.len, h3.len, Ty.sz, Ty.sh, Sh.sz, Sh.szs]
 | .s4 a b c d, x, cs, h => by
   simp only [CD] at h
   obtain ⟨c1, c2, c3, c4, rfl, h1, h2, h3, h4⟩ := h
   simp [List.length_append, h1.len, h2.len, h3.len, h4.len, Ty.sz, Ty.sh, Sh.sz, Sh.szs]
theorem CellsAt.of_block {w w' : World} {a : Addr} {cs : List Value} (h : CellsAt w a cs) (hb : w'.heap[a.block]? = w.heap[a.block]?) : CellsAt w' a cs := by
 intro j hj
 rw [← h j hj]
 refine World.cell?_of_block ?_
 have : (a.add j).block = a.block := by unfold Addr.add; split <;> rfl
 rw [this]; exact hb
theorem block_add (a : Addr) (j : Nat) : (a.add j).block = a.block := by unfold Addr.add; split <;> rfl
theorem CD.mono {F F' : Nat → Prop} {w w' : World} (hF : ∀ b, F b → F' b ∧ w'.heap[b]? = w.heap[b]?) : ∀ {t : Ty} {x : t.D} {cs : List Value}, CD F w t x cs → CD F' w' t x cs
 | .int _, _, _, h => by simpa only [CD] using h
 | .bool, _, _, h => by simpa only [CD] using h
 | .str, _, _, h => by simpa only [CD] using h
 | .sl e, xs, cs, h => by
   simp only [CD] at h ⊢
   obtain ⟨A, c, h1, hm, h2⟩ := h
   refine ⟨A, c, h1, hm, fun i hi => ?_⟩
   obtain ⟨ad, ecs, ha, hf, hc, hat⟩ := h2 i hi
   exact ⟨ad, ecs, ha, (hF _ hf).1, hc.mono hF, hat.of_block (by rw [block_add]; exact (hF _ hf).2)⟩
 | .ar n e, xs, cs, h => by
   simp only [CD] at h ⊢
   obtain ⟨hl, css, hc, h1, h⟩ := h
   exact ⟨hl, css, hc, h1, fun i hi hi' => (h i hi hi').mono hF⟩
 | .a2 e, x, cs, h => by
   simp only [CD] at h ⊢
   obtain ⟨c1, c2, h0, h1, h2⟩ := h
   exact ⟨c1, c2, h0, h1.mono hF, h2.mono hF⟩
 | .s1 a, x, cs, h => by
   simp only [CD] at h ⊢
   exact h.mono hF
 | .s2 a b, x, cs, h => by
   simp only [CD] at h ⊢
   obtain ⟨c1, c2, h0, h1, h2⟩ := h
   exact ⟨c1, c2, h0, h1.mono hF, h2.mono hF⟩
 | .s3 a b c, x, cs, h => by
   simp only [CD] at h ⊢
   obtain ⟨c1, c2, c3, h0, h1, h2, h3⟩ := h
   exact ⟨c1, c2, c3, h0, h1.mono hF, h2.mono hF, h3.mono hF⟩
 | .s4 a b c d, x, cs, h => by
   simp only [CD] at h ⊢
   obtain ⟨c1, c2, c3, c4, h0, h1, h2, h3, h4⟩ := h
   exact ⟨c1, c2, c3, c4, h0, h1.mono hF, h2.mono hF, h3.mono hF, h4.mono hF⟩
inductive AV
 | int (k : IntKind) (n : Int)
 | bool (b : Bool)                      -- a bool that is not decided
 | tt | ff                              -- decided ones
 | pb (p : Prop) (d : Decidable p)      -- a test
 | str (s : ByteArray)
 | agg (l : List AV)
 | ar (e : Ty) (n : Nat) (xs : List e.D)
 | sl (e : Ty) (xs : List e.D)
 | pt (t : Ty) (x : t.D)
 | pv (c : AV)                          -- a pointer to what stays as it is
 | own (o ver : Nat)
 | sub (o ver : Nat) (p : List Nat) (lo n : Nat)
 | ptr (o ver : Nat) (p : List Nat)
 | mp (o : Nat)
 | yld (o : Nat)                        -- the function that yields to the loop whose record is object o
 | clo (f : FuncId) (first caps : List AV)
 | vv (v : Value)
 | tup (l : List AV)
 | dead
def ofD : (t : Ty) → t.D → AV
 | .int k, x => .int k x
 | .bool, x => .bool x
 | .str, x => .str x
 | .sl e, xs => .sl e xs
 | .ar n e, xs => .ar e n xs
 | .a2 e, x => .ar e 2 [x.1, x.2]
 | .s1 a, x => .agg [ofD a x]
 | .s2 a b, x => .agg [ofD a x.1, ofD b x.2]
 | .s3 a b c, x => .agg [ofD a x.1, ofD b x.2.1, ofD c x.2.2]
 | .s4 a b c d, x => .agg [ofD a x.1, ofD b x.2.1, ofD c x.2.2.1, ofD d x.2.2.2]
mutual
def AV.sh : AV → Sh
 | .agg l => .node (AV.shs l)
 | .ar e n _ => .arr n e.sh
 | _ => .cell
def AV.shs : List AV → List Sh
 | [] => []
 | a :: l => a.sh :: AV.shs l
end
theorem sh_ofD : ∀ (t : Ty) (x : t.D), (ofD t x).sh = t.sh
 | .int _, _ | .bool, _ | .str, _ | .sl _, _ | .ar _ _, _ | .a2 _, _ => rfl
 | .s1 a, x => by simp [ofD, AV.sh, AV.shs, Ty.sh, sh_ofD]
 | .s2 a b, x => by simp [ofD, AV.sh, AV.shs, Ty.sh, sh_ofD]
 | .s3 a b c, x => by simp [ofD, AV.sh, AV.shs, Ty.sh, sh_ofD]
 | .s4 a b c d, x => by simp [ofD, AV.sh, AV.shs, Ty.sh, sh_ofD]
/-- Plain data out of a value. -/
def castL (e' e : Ty) (xs : List e'.D) : Option (List e.D) := if h : e' = e then some (h ▸ xs) else none
theorem castL_some {e' e : Ty} {xs : List e'.D} {ys : List e.D} (h : castL e' e xs = some ys) : ∃ he : e' = e, ys = he ▸ xs := by
 unfold castL at h
 split at h
 · rename_i he; exact ⟨he, by injection h with h; exact h.symm⟩
 · cases h
def toInt (k : IntKind) : AV → Option Int
 | .int k' n => if k' = k then some n else none
 | _ => none
def toB : AV → Option Bool
 | .bool b => some b
 | .tt => some true
 | .ff => some false
 | .pb p d => some (@decide p d)
 | _ => none
def toS : AV → Option ByteArray
 | .str s => some s
 | _ => none
def toSl (e : Ty) : AV → Option (List e.D)
 | .sl e' xs => castL e' e xs
 | .vv (.slice none 0 0) => some []
 | _ => none
def toAr (n : Nat) (e : Ty) : AV → Option (List e.D)
 | .ar e' n' xs => if n' = n then castL e' e xs else none
 | _ => none
def un1 : AV → Option AV
 | .agg [x] => some x
 | _ => none
def un2 : AV → Option (AV × AV)
 | .agg [x, y] => some (x, y)
 | _ => none
def un3 : AV → Option (AV × AV × AV)
 | .agg [x, y, z] => some (x, y, z)
 | _ => none
def un4 : AV → Option (AV × AV × AV × AV)
 | .agg [x, y, z, u] => some (x, y, z, u)
 | _ => none
def toD : (t : Ty) → AV → Option t.D
 | .int k, v => toInt k v
 | .bool, v => toB v
 | .str, v => toS v
 | .sl e, v => toSl e v
 | .ar n e, v => toAr n e v
 | .a2 e, v => (toAr 2 e v).map fun xs => (xs.getD 0 e.dflt, xs.getD 1 e.dflt)
 | .s1 a, v => match un1 v with
   | some x => toD a x
   | none => none
 | .s2 a b, v => match un2 v with
   | some (x, y) => (match toD a x with | some x => (match toD b y with | some y => some (x, y) | none => none) | none => none)
   | none => none
 | .s3 a b c, v => match un3 v with
   | some (x, y, z) => (match toD a x with | some x => (match toD b y with | some y => (match toD c z with | some z => some (x, y, z) | none => none) | none => none) | none => none)
   | none => none
 | .s4 a b c d, v => match un4 v with
   | some (x, y, z, u) => (match toD a x with | some x => (match toD b y with | some y => (match toD c z with | some z => (match toD d u with | some u => some (x, y, z, u) | none => none) | none => none) | none => none) | none => none)
   | none => none
/-- The ghost: where the objects lie, and how much room slices have. -/
structure Env where
 β : Nat → Nat
 cap : Nat → Nat
structure Inf where
 ver : Nat
 sh : Sh
/-- Where a path leads: to which shape, and how far from the begin. -/
inductive PathTo : Sh → List Nat → Sh → Nat → Prop
 | here (s) : PathTo s [] s 0
 | node {l i s p t off} (h : l[i]? = some s) (hp : PathTo s p t off) : PathTo (.node l) (i :: p) t (Sh.szs (l.take i) + off)
 | arr {n e i p t off} (h : i < n) (hp : PathTo e p t off) : PathTo (.arr n e) (i :: p) t (i * e.sz + off)
/-- An array lies there: one of data, or of own slices. -/
def PathA (s : Sh) (p : List Nat) (N : Nat) (e : Sh) (off : Nat) : Prop := PathTo s p (.arr N e) off ∨ PathTo s p (.node (List.replicate N e)) off
/-- A value of one cell, or one that is made of cells. -/
def AV.isAgg : AV → Bool
 | .agg _ | .ar _ _ _ => true
 | _ => false
def Shaped (a : AV) (v : Value) : Prop := if a.isAgg then ∃ cs, v = .agg cs else v.cells = #[v]
mutual
def CR (E : Env) (I : Nat → Option Inf) (F : Nat → Prop) (w : World) : AV → List Value → Prop
 | .int k n, cs => cs = [.int k n]
 | .bool b, cs => cs = [.bool b]
 | .tt, cs => cs = [.bool true]
 | .ff, cs => cs = [.bool false]
 | .pb p d, cs => cs = [.bool (@decide p d)]
 | .str s, cs => cs = [.string s]
 | .agg l, cs => CRs E I F w l cs
 | .ar e n xs, cs => CD F w (.ar n e) xs cs
 | .sl e xs, cs => CD F w (.sl e) xs cs
 | .pt t x, cs => ∃ ad c, cs = [.pointer (some ad)] ∧ F ad.block ∧ CD F w t x c ∧ CellsAt w ad c
 | .pv c, cs => ∃ ad cc, cs = [.pointer (some ad)] ∧ F ad.block ∧ CR E I F w c cc ∧ CellsAt w ad cc
 | .own o ver, cs => cs.length = 1 ∧ (∀ v ∈ cs, Value.oneCell' v = true) ∧ ∀ n e, I o = some ⟨ver, .arr n e⟩ → cs = [.slice (some ⟨E.β o, 0, none⟩) n (E.cap o)]
 | .sub o ver p lo n, cs => cs.length = 1 ∧ (∀ v ∈ cs, Value.oneCell' v = true) ∧ ∀ s, I o = some ⟨ver, s⟩ → ∃ off N e, PathA s p N e off ∧ lo + n ≤ N ∧
     ∃ q c, cs = [.slice (some ⟨E.β o, q, none⟩) n c] ∧ (0 < n → q = off + lo * e.sz) ∧ n ≤ c
 | .ptr o ver p, cs => cs.length = 1 ∧ (∀ v ∈ cs, Value.oneCell' v = true) ∧ ∀ s, I o = some ⟨ver, s⟩ → ∃ t off, PathTo s p t off ∧ cs = [.pointer (some ⟨E.β o, off, none⟩)]
 | .mp o, cs => cs = [.map (some (E.β o))]
 | .yld o, cs => cs = [.func (.yield (E.β o)) #[] #[]]
 | .clo f first caps, cs => ∃ vs us, cs = [.func (.func f) (List.toArray vs) (List.toArray us)] ∧ VRs E I F w first vs ∧ VRs E I F w caps us
 | .vv v, cs => cs = [v] ∧ v.oneCell' = true
 | .tup _, _ => False
 | .dead, _ => False
def CRs (E : Env) (I : Nat → Option Inf) (F : Nat → Prop) (w : World) : List AV → List Value → Prop
 | [], cs => cs = []
 | a :: l, cs => ∃ c1 c2, cs = c1 ++ c2 ∧ CR E I F w a c1 ∧ CRs E I F w l c2
/-- A list of values, one for each. -/
def VRs (E : Env) (I : Nat → Option Inf) (F : Nat → Prop) (w : World) : List AV → List Value → Prop
 | [], vs => vs = []
 | a :: l, vs => ∃ v us, vs = v :: us ∧ CR E I F w a v.cells.toList ∧ Shaped a v ∧ VRs E I F w l us
end
section
variable {E : Env} {I : Nat → Option Inf} {F : Nat → Prop} {w : World}
mutual
theorem CR.len : ∀ {a : AV} {cs : List Value}, CR E I F w a cs → cs.length = a.sh.sz
 | .int _ _, _, h => by simp only [CR] at h; subst h; rfl
 | .bool _, _, h => by simp only [CR] at h; subst h; rfl
 | .tt, _, h => by simp only [CR] at h; subst h; rfl
 | .ff, _, h => by simp only [CR] at h; subst h; rfl
 | .pb _ _, _, h => by simp only [CR] at h; subst h; rfl
 | .str _, _, h => by simp only [CR] at h; subst h; rfl
 | .agg l, cs, h => by simp only [CR] at h; simp only [AV.sh, Sh.sz]; exact CRs.len h
 | .ar e n xs, cs, h => by simp only [CR] at h; exact h.len
 | .sl _ _, _, h => by simp only [CR] at h; exact h.len
 | .pt _ _, _, h => by simp only [CR] at h; obtain ⟨_, _, rfl, _⟩ := h; rfl
 | .pv _, _, h => by simp only [CR] at h; obtain ⟨_, _, rfl, _⟩ := h; rfl
 | .own _ _, _, h => by simp only [CR] at h; exact h.1
 | .sub _ _ _ _ _, _, h => by simp only [CR] at h; exact h.1
 | .ptr _ _ _, _, h => by simp only [CR] at h; exact h.1
 | .mp _, _, h => by simp only [CR] at h; subst h; rfl
 | .yld _, _, h => by simp only [CR] at h; subst h; rfl
 | .clo _ _ _, _, h => by simp only [CR] at h; obtain ⟨_, _, rfl, _⟩ := h; rfl
 | .vv _, _, h => by simp only [CR] at h; obtain ⟨rfl, _⟩ := h; rfl
 | .tup _, _, h => by simp only [CR] at h
 | .dead, _, h => by simp only [CR] at h
theorem CRs.len : ∀ {l : List AV} {cs : List Value}, CRs E I F w l cs → cs.length = Sh.szs (AV.shs l)
 | [], _, h => by simp only [CRs] at h; subst h; rfl
 | a :: l, cs, h => by
   simp only [CRs] at h
   obtain ⟨c1, c2, rfl, h1, h2⟩ := h
   simp [AV.shs, Sh.szs, h1.len, h2.len]
end
theorem CR.ofD : ∀ {t : Ty} {x : t.D} {cs : List Value}, CD F w t x cs → CR E I F w (ofD t x) cs
 | .int _, _, _, h => h
 | .bool, _, _, h => h
 | .str, _, _, h => h
 | .sl _, _, _, h => h
 | .ar _ _, _, _, h => h
 | .a2 e, x, cs, h => by
   simp only [CD] at h
   obtain ⟨c1, c2, rfl, h1, h2⟩ := h
   simp only [Am.ofD, CR, CD]
   refine ⟨rfl, [c1, c2], rfl, by simp, fun i hi hi' => ?_⟩
   match i, hi with
   | 0, _ => exact h1
   | 1, _ => exact h2
 | .s1 a, x, cs, h => by
   simp only [CD] at h
   simp only [Am.ofD, CR, CRs]
   exact ⟨cs, [], by simp, CR.ofD h, rfl⟩
 | .s2 a b, x, cs, h => by
   simp only [CD] at h
   obtain ⟨c1, c2, rfl, h1, h2⟩ := h
   simp only [Am.ofD, CR, CRs]
   exact ⟨c1, c2, rfl, CR.ofD h1, c2, [], by simp, CR.ofD h2, rfl⟩
 | .s3 a b c, x, cs, h => by
   simp only [CD] at h
   obtain ⟨c1, c2, c3, rfl, h1, h2, h3⟩ := h
   simp only [Am.ofD, CR, CRs]
   exact ⟨c1, c2 ++ c3, rfl, CR.ofD h1, c2, c3, rfl, CR.ofD h2, c3, [], by simp, CR.ofD h3, rfl⟩
 | .s4 a b c d, x, cs, h => by
   simp only [CD] at h
   obtain ⟨c1, c2, c3, c4, rfl, h1, h2, h3, h4⟩ := h
   simp only [Am.ofD, CR, CRs]
   exact ⟨c1, c2 ++ (c3 ++ c4), rfl, CR.ofD h1, c2, c3 ++ c4, rfl, CR.ofD h2, c3, c4, rfl, CR.ofD h3, c4, [], by simp, CR.ofD h4, rfl⟩
theorem CD.of_toAr {n : Nat} {e : Ty} {a : AV} {xs : List e.D} {cs : List Value} (ht : toAr n e a = some xs) (h : CR E I F w a cs) : CD F w (.ar n e) xs cs := by
 unfold toAr at ht
 split at ht
 · split at ht
   · rename_i hn; subst hn
     obtain ⟨he, rfl⟩ := castL_some ht
     subst he
     simpa only [CR] using h
   · cases ht
 · cases ht
theorem CD.of_toD : ∀ {t : Ty} {a : AV} {x : t.D} {cs : List Value}, toD t a = some x → CR E I F w a cs → CD F w t x cs
 | .int k, a, x, cs, ht, h => by
   simp only [toD] at ht
   unfold toInt at ht
   split at ht
   · split at ht
     · rename_i hk; subst hk; injection ht with ht; subst ht; simp only [CR] at h; exact h
     · cases ht
   · cases ht
 | .bool, a, x, cs, ht, h => by
   simp only [toD] at ht
   unfold toB at ht
   split at ht <;> first | (injection ht with ht; subst ht; simp only [CR] at h; exact h) | cases ht
 | .str, a, x, cs, ht, h => by
   simp only [toD] at ht
   unfold toS at ht
   split at ht <;> first | (injection ht with ht; subst ht; simp only [CR] at h; exact h) | cases ht
 | .sl e, a, x, cs, ht, h => by
   simp only [toD] at ht
   unfold toSl at ht
   split at ht
   · obtain ⟨he, rfl⟩ := castL_some ht
     subst he
     simpa only [CR] using h
   · injection ht with ht; subst ht
     simp only [CR] at h
     obtain ⟨rfl, _⟩ := h
     exact ⟨none, 0, rfl, by simp, fun i hi => absurd hi (by simp)⟩
   · cases ht
 | .ar n e, a, x, cs, ht, h => by
   simp only [toD] at ht
   exact CD.of_toAr ht h
 | .a2 e, a, x, cs, ht, h => by
   simp only [toD, Option.map_eq_some_iff] at ht
   obtain ⟨xs, ht, rfl⟩ := ht
   have := CD.of_toAr ht h
   simp only [CD] at this ⊢
   obtain ⟨hl, css, hc, rfl, hh⟩ := this
   clear h ht
   match xs, hl, css, hc, hh with
   | [x, y], _, [c1, c2], _, hh => exact ⟨c1, c2, by simp, hh 0 (by simp) (by simp), hh 1 (by simp) (by simp)⟩
 | .s1 a, v, x, cs, ht, h => by
   simp only [toD] at ht
   unfold un1 at ht
   split at ht <;> try (cases ht; done)
   rename_i heq
   split at heq <;> cases heq
   simp only [CR, CRs] at h
   obtain ⟨c1, c2, rfl, h1, rfl⟩ := h
   simp only [CD, List.append_nil]
   exact CD.of_toD ht h1
 | .s2 a b, v, x, cs, ht, h => by
   simp only [toD] at ht
   unfold un2 at ht
   split at ht <;> try (cases ht; done)
   rename_i heq
   split at heq <;> cases heq
   split at ht <;> try (cases ht; done)
   rename_i e1
   split at ht <;> try (cases ht; done)
   rename_i e2
   injection ht with ht; subst ht
   simp only [CR, CRs] at h
   obtain ⟨c1, c2, rfl, h1, c3, c4, rfl, h2, rfl⟩ := h
   exact ⟨c1, c3, by simp, CD.of_toD e1 h1, CD.of_toD e2 h2⟩
 | .s3 a b c, v, x, cs, ht, h => by
   simp only [toD] at ht
   unfold un3 at ht
   split at ht <;> try (cases ht; done)
   rename_i heq
   split at heq <;> cases heq
   split at ht <;> try (cases ht; done)
   rename_i e1
   split at ht <;> try (cases ht; done)
   rename_i e2
   split at ht <;> try (cases ht; done)
   rename_i e3
   injection ht with ht; subst ht
   simp only [CR, CRs] at h
   obtain ⟨c1, c2, rfl, h1, c3, c4, rfl, h2, c5, c6, rfl, h3, rfl⟩ := h
   exact ⟨c1, c3, c5, by simp, CD.of_toD e1 h1, CD.of_toD e2 h2, CD.of_toD e3 h3⟩
 | .s4 a b c d, v, x, cs, ht, h => by
   simp only [toD] at ht
   unfold un4 at ht
   split at ht <;> try (cases ht; done)
   rename_i heq
   split at heq <;> cases heq
   split at ht <;> try (cases ht; done)
   rename_i e1
   split at ht <;> try (cases ht; done)
   rename_i e2
   split at ht <;> try (cases ht; done)
   rename_i e3
   split at ht <;> try (cases ht; done)
   rename_i e4
   injection ht with ht; subst ht
   simp only [CR, CRs] at h
   obtain ⟨c1, c2, rfl, h1, c3, c4, rfl, h2, c5, c6, rfl, h3, c7, c8, rfl, h4, rfl⟩ := h
   exact ⟨c1, c3, c5, c7, by simp, CD.of_toD e1 h1, CD.of_toD e2 h2, CD.of_toD e3 h3, CD.of_toD e4 h4⟩
theorem CD.one : ∀ {t : Ty} {x : t.D} {cs : List Value}, CD F w t x cs → ∀ v ∈ cs, v.oneCell' = true
 | .int _, _, _, h => by simp only [CD] at h; subst h; simp [Value.oneCell']
 | .bool, _, _, h => by simp only [CD] at h; subst h; simp [Value.oneCell']
 | .str, _, _, h => by simp only [CD] at h; subst h; simp [Value.oneCell']
 | .sl _, _, _, h => by simp only [CD] at h; obtain ⟨_, _, rfl, _⟩ := h; simp [Value.oneCell']
 | .ar n e, xs, cs, h => by
   simp only [CD] at h
   obtain ⟨hl, css, hc, rfl, h⟩ := h
   intro v hv
   obtain ⟨c, hcm, hvc⟩ := List.mem_flatten.1 hv
   obtain ⟨i, hi, rfl⟩ := List.getElem_of_mem hcm
   exact (h i (by omega) hi).one v hvc
 | .a2 e, x, cs, h => by
   simp only [CD] at h
   obtain ⟨c1, c2, rfl, h1, h2⟩ := h
   intro v hv
   rcases List.mem_append.1 hv with hv | hv
   · exact h1.one v hv
   · exact h2.one v hv
 | .s1 a, x, cs, h => by
   simp only [CD] at h
   exact h.one
 | .s2 a b, x, cs, h => by
   simp only [CD] at h
   obtain ⟨c1, c2, rfl, h1, h2⟩ := h
   intro v hv
   rcases List.mem_append.1 hv with hv | hv
   · exact h1.one v hv
   · exact h2.one v hv
 | .s3 a b c, x, cs, h => by
   simp only [CD] at h
   obtain ⟨c1, c2, c3, rfl, h1, h2, h3⟩ := h
   intro v hv
   simp only [List.mem_append] at hv
   rcases hv with hv | hv | hv
   · exact h1.one v hv
   · exact h2.one v hv
   · exact h3.one v hv
 | .s4 a b c d, x, cs, h => by
   simp only [CD] at h
   obtain ⟨c1, c2, c3, c4, rfl, h1, h2, h3, h4⟩ := h
   intro v hv
   simp only [List.mem_append] at hv
   rcases hv with hv | hv | hv | hv
   · exact h1.one v hv
   · exact h2.one v hv
   · exact h3.one v hv
   · exact h4.one v hv
mutual
theorem CR.one : ∀ {a : AV} {cs : List Value}, CR E I F w a cs → ∀ v ∈ cs, v.oneCell' = true
 | .int _ _, _, h => by simp only [CR] at h; subst h; simp [Value.oneCell']
 | .bool _, _, h => by simp only [CR] at h; subst h; simp [Value.oneCell']
 | .tt, _, h => by simp only [CR] at h; subst h; simp [Value.oneCell']
 | .ff, _, h => by simp only [CR] at h; subst h; simp [Value.oneCell']
 | .pb _ _, _, h => by simp only [CR] at h; subst h; simp [Value.oneCell']
 | .str _, _, h => by simp only [CR] at h; subst h; simp [Value.oneCell']
 | .agg l, cs, h => by simp only [CR] at h; exact CRs.one h
 | .ar e n xs, cs, h => by simp only [CR] at h; exact h.one
 | .sl _ _, _, h => by simp only [CR] at h; exact h.one
 | .pt _ _, _, h => by simp only [CR] at h; obtain ⟨_, _, rfl, _⟩ := h; simp [Value.oneCell']
 | .pv _, _, h => by simp only [CR] at h; obtain ⟨_, _, rfl, _⟩ := h; simp [Value.oneCell']
 | .own _ _, cs, h => by simp only [CR] at h; exact h.2.1
 | .sub _ _ _ _ _, cs, h => by simp only [CR] at h; exact h.2.1
 | .ptr _ _ _, cs, h => by simp only [CR] at h; exact h.2.1
 | .mp _, _, h => by simp only [CR] at h; subst h; simp [Value.oneCell']
 | .yld _, _, h => by simp only [CR] at h; subst h; simp [Value.oneCell']
 | .clo _ _ _, _, h => by simp only [CR] at h; obtain ⟨_, _, rfl, _⟩ := h; simp [Value.oneCell']
 | .vv _, _, h => by simp only [CR] at h; obtain ⟨rfl, h⟩ := h; simpa using h
 | .tup _, _, h => by simp only [CR] at h
 | .dead, _, h => by simp only [CR] at h
theorem CRs.one : ∀ {l : List AV} {cs : List Value}, CRs E I F w l cs → ∀ v ∈ cs, v.oneCell' = true
 | [], _, h => by simp only [CRs] at h; subst h; simp
 | a :: l, cs, h => by
   simp only [CRs] at h
   obtain ⟨c1, c2, rfl, h1, h2⟩ := h
   intro v hv
   rcases List.mem_append.1 hv with hv | hv
   · exact h1.one v hv
   · exact h2.one v hv
end
def seqO {α : Type} : List (Option α) → Option (List α)
 | [] => some []
 | some x :: l => (match seqO l with | some r => some (x :: r) | none => none)
 | none :: _ => none
theorem seqO_some {α : Type} : ∀ {l : List (Option α)} {r : List α}, seqO l = some r → l = r.map some
 | [], r, h => by simp [seqO] at h; subst h; rfl
 | some x :: l, r, h => by
   simp only [seqO] at h
   split at h
   · rename_i q hq; injection h with h; subst h; simp [seqO_some hq]
   · cases h
 | none :: l, r, h => by simp [seqO] at h
def litD : (t : Ty) → t.D → Option (List Value)
 | .int k, x => some [.int k x]
 | .bool, x => some [.bool x]
 | .str, x => some [.string x]
 | .sl _, xs => match xs with | [] => some [.slice none 0 0] | _ => none
 | .ar n e, xs => if (xs : List e.D).length = n then (match seqO ((xs : List e.D).map (litD e)) with | some css => some css.flatten | none => none) else none
 | .a2 e, x => (match litD e x.1 with | some a => (match litD e x.2 with | some b => some (a ++ b) | none => none) | none => none)
 | .s1 a, x => litD a x
 | .s2 a b, x => (match litD a x.1 with | some p => (match litD b x.2 with | some q => some (p ++ q) | none => none) | none => none)
 | .s3 a b c, x => (match litD a x.1 with | some p => (match litD b x.2.1 with | some q => (match litD c x.2.2 with | some r => some (p ++ (q ++ r)) | none => none) | none => none) | none => none)
 | .s4 a b c d, x => (match litD a x.1 with | some p => (match litD b x.2.1 with | some q => (match litD c x.2.2.1 with | some r => (match litD d x.2.2.2 with | some s => some (p ++ (q ++ (r ++ s))) | none => none) | none => none) | none => none) | none => none)
theorem CD.lit : ∀ {t : Ty} {x : t.D} {cs : List Value}, litD t x = some cs → CD F w t x cs
 | .int _, _, _, h => by simp only [litD] at h; injection h with h; exact h.symm
 | .bool, _, _, h => by simp only [litD] at h; injection h with h; exact h.symm
 | .str, _, _, h => by simp only [litD] at h; injection h with h; exact h.symm
 | .sl _, xs, _, h => by
   simp only [litD] at h
   split at h
   · injection h with h; subst h
     exact ⟨none, 0, rfl, by simp, fun i hi => absurd hi (by simp)⟩
   · cases h
 | .ar n e, xs, _, h => by
   simp only [litD] at h
   split at h
   · rename_i hn
     split at h
     · rename_i css hc
       injection h with h; subst h
       have hm := seqO_some hc
       have hl : css.length = n := by have := congrArg List.length hm; simp at this; omega
       refine ⟨hn, css, hl, rfl, fun i hi hi' => CD.lit ?_⟩
       have := congrArg (fun l => l[i]?) hm
       simp [hi, hi'] at this
       exact this
     · cases h
   · cases h
 | .a2 e, x, _, h => by
   simp only [litD] at h
   split at h <;> try (cases h; done)
   rename_i a ha
   split at h <;> try (cases h; done)
   rename_i b hb
   injection h with h; subst h
   exact ⟨a, b, rfl, CD.lit ha, CD.lit hb⟩
 | .s1 a, x, _, h => by
   simp only [litD] at h
   exact CD.lit (t := a) h
 | .s2 a b, x, _, h => by
   simp only [litD] at h
   split at h <;> try (cases h; done)
   rename_i p hp
   split at h <;> try (cases h; done)
   rename_i q hq
   injection h with h; subst h
   exact ⟨p, q, rfl, CD.lit hp, CD.lit hq⟩
 | .s3 a b c, x, _, h => by
   simp only [litD] at h
   split at h <;> try (cases h; done)
   rename_i p hp
   split at h <;> try (cases h; done)
   rename_i q hq
   split at h <;> try (cases h; done)
   rename_i r hr
   injection h with h; subst h
   exact ⟨p, q, r, rfl, CD.lit hp, CD.lit hq, CD.lit hr⟩
 | .s4 a b c d, x, _, h => by
   simp only [litD] at h
   split at h <;> try (cases h; done)
   rename_i p hp
   split at h <;> try (cases h; done)
   rename_i q hq
   split at h <;> try (cases h; done)
   rename_i r hr
   split at h <;> try (cases h; done)
   rename_i s hs
   injection h with h; subst h
   exact ⟨p, q, r, s, rfl, CD.lit hp, CD.lit hq, CD.lit hr, CD.lit hs⟩
mutual
def AV.lit : AV → Option (List Value)
 | .int k n => some [.int k n]
 | .bool b => some [.bool b]
 | .tt => some [.bool true]
 | .ff => some [.bool false]
 | .str s => some [.string s]
 | .agg l => AV.lits l
 | .ar e n xs => litD (.ar n e) xs
 | .sl e xs => litD (.sl e) xs
 | .vv v => if v.oneCell' then some [v] else none
 | _ => none
def AV.lits : List AV → Option (List Value)
 | [] => some []
 | a :: l => (match a.lit with | some x => (match AV.lits l with | some y => some (x ++ y) | none => none) | none => none)
end
mutual
theorem CR.lit : ∀ {a : AV} {cs : List Value}, a.lit = some cs → CR E I F w a cs
 | .int k n, _, h => by simp only [AV.lit] at h; injection h with h; simp only [CR]; exact h.symm
 | .bool b, _, h => by simp only [AV.lit] at h; injection h with h; simp only [CR]; exact h.symm
 | .tt, _, h => by simp only [AV.lit] at h; injection h with h; simp only [CR]; exact h.symm
 | .ff, _, h => by simp only [AV.lit] at h; injection h with h; simp only [CR]; exact h.symm
 | .str s, _, h => by simp only [AV.lit] at h; injection h with h; simp only [CR]; exact h.symm
 | .agg l, _, h => by simp only [AV.lit] at h; simp only [CR]; exact CRs.lit h
 | .ar e n xs, _, h => by simp only [AV.lit] at h; simp only [CR]; exact CD.lit h
 | .sl e xs, _, h => by simp only [AV.lit] at h; simp only [CR]; exact CD.lit h
 | .vv v, _, h => by
   simp only [AV.lit] at h
   split at h
   · rename_i hv; injection h with h; simp only [CR]; exact ⟨h.symm, hv⟩
   · cases h
 | .pb _ _, _, h => by simp [AV.lit] at h
 | .pt _ _, _, h => by simp [AV.lit] at h
 | .pv _, _, h => by simp [AV.lit] at h
 | .own _ _, _, h => by simp [AV.lit] at h
 | .sub _ _ _ _ _, _, h => by simp [AV.lit] at h
 | .ptr _ _ _, _, h => by simp [AV.lit] at h
 | .mp _, _, h => by simp [AV.lit] at h
 | .yld _, _, h => by simp [AV.lit] at h
 | .clo _ _ _, _, h => by simp [AV.lit] at h
 | .tup _, _, h => by simp [AV.lit] at h
 | .dead, _, h => by simp [AV.lit] at h
theorem CRs.lit : ∀ {l : List AV} {cs : List Value}, AV.lits l = some cs → CRs E I F w l cs
 | [], _, h => by simp only [AV.lits] at h; injection h with h; simp only [CRs]; exact h.symm
 | a :: l, _, h => by
   simp only [AV.lits] at h
   split at h <;> try (cases h; done)
   rename_i x hx
   split at h <;> try (cases h; done)
   rename_i y hy
   injection h with h; subst h
   simp only [CRs]
   exact ⟨x, y, rfl, CR.lit hx, CRs.lit hy⟩
end
end
end Go.Am

/- The abstract machine, part 1: parts of values, read and written; what is said of cells depends on little. -/
namespace Go.Am
open Go
def getAt : AV → List Nat → Option AV
 | c, [] => some c
 | c, i :: p => match c with
   | .agg l => match l[i]? with
     | some x => getAt x p
     | none => none
   | .ar e _ xs => getAt (ofD e (xs.getD i e.dflt)) p
   | _ => none
def setAt : AV → List Nat → AV → Option AV
 | _, [], v => some v
 | c, i :: p, v => match c with
   | .agg l => match l[i]? with
     | some x => (match setAt x p v with
       | some y => some (.agg (l.set i y))
       | none => none)
     | none => none
   | .ar e n xs => match setAt (ofD e (xs.getD i e.dflt)) p v with
     | some y => (match toD e y with
       | some d => some (.ar e n (xs.set i d))
       | none => none)
     | none => none
   | _ => none
theorem flatten_split {css : List (List Value)} {k : Nat} (hk : ∀ i (h : i < css.length), css[i].length = k) (i : Nat) (hi : i < css.length) :
   ∃ pre post, css.flatten = pre ++ (css[i] ++ post) ∧ pre.length = i * k ∧ ∀ vs, (css.set i vs).flatten = pre ++ (vs ++ post) := by
 induction css generalizing i with
 | nil => simp at hi
 | cons c l ih =>
   cases i with
   | zero => exact ⟨[], l.flatten, by simp, by simp, fun vs => by simp⟩
   | succ i =>
     have hi' : i < l.length := by simpa using hi
     obtain ⟨pre, post, h1, h2, h3⟩ := ih (fun j hj => by have := hk (j + 1) (by simpa using hj); simpa using this) i hi'
     have h0 := hk 0 (by simp)
     simp at h0
     refine ⟨c ++ pre, post, ?_, ?_, fun vs => ?_⟩
     · simp [h1]
     · simp [h2, h0, Nat.succ_mul]; omega
     · simp [h3 vs]
section
variable {E : Env} {I : Nat → Option Inf} {F : Nat → Prop} {w : World}
theorem CD.ar_split {n : Nat} {e : Ty} {xs : List e.D} {cs : List Value} (h : CD F w (.ar n e) xs cs) {i : Nat} (hi : i < n) :
   ∃ pre mid post, cs = pre ++ (mid ++ post) ∧ pre.length = i * e.sz ∧ CD F w e (xs.getD i e.dflt) mid ∧
     ∀ d vs, CD F w e d vs → CD F w (.ar n e) (xs.set i d) (pre ++ (vs ++ post)) := by
 simp only [CD] at h
 obtain ⟨hl, css, hc, rfl, h⟩ := h
 have hi1 : i < css.length := by omega
 have hi2 : i < xs.length := by omega
 obtain ⟨pre, post, h1, h2, h3⟩ := flatten_split (k := e.sz) (fun j hj => (h j (by omega) hj).len) i hi1
 refine ⟨pre, css[i], post, h1, h2, ?_, fun d vs hd => ?_⟩
 · have hg : xs.getD i e.dflt = xs[i] := by simp [List.getD_eq_getElem?_getD, hi2]
   rw [hg]; exact h i hi2 hi1
 · simp only [CD]
   refine ⟨by simp [hl], css.set i vs, by simp [hc], (h3 vs).symm, fun j hj hj' => ?_⟩
   by_cases hij : i = j
   · subst hij; simpa using hd
   · have hj1 : j < xs.length := by simpa using hj
     have hj2 : j < css.length := by simpa using hj'
     simpa [List.getElem_set_ne hij] using h j hj1 hj2
theorem shs_get {l : List AV} {i : Nat} {x : AV} (h : l[i]? = some x) : (AV.shs l)[i]? = some x.sh := by
 induction l generalizing i with
 | nil => simp at h
 | cons a l ih =>
   cases i with
   | zero => simp at h; subst h; simp [AV.shs]
   | succ i => simp at h; simpa [AV.shs] using ih h
theorem shs_set {l : List AV} {i : Nat} {x y : AV} (h : l[i]? = some x) (hs : y.sh = x.sh) : AV.shs (l.set i y) = AV.shs l := by
 induction l generalizing i with
 | nil => simp at h
 | cons a l ih =>
   cases i with
   | zero => simp at h; subst h; simp [AV.shs, hs]
   | succ i => simp at h; simpa [AV.shs] using ih h
theorem CRs.split {l : List AV} {cs : List Value} (h : CRs E I F w l cs) {i : Nat} {x : AV} (hi : l[i]? = some x) :
   ∃ pre mid post, cs = pre ++ (mid ++ post) ∧ pre.length = Sh.szs ((AV.shs l).take i) ∧ CR E I F w x mid ∧
     ∀ y vs, CR E I F w y vs → CRs E I F w (l.set i y) (pre ++ (vs ++ post)) := by
 induction l generalizing i cs with
 | nil => simp at hi
 | cons a l ih =>
   simp only [CRs] at h
   obtain ⟨c1, c2, rfl, h1, h2⟩ := h
   cases i with
   | zero =>
     simp at hi; subst hi
     refine ⟨[], c1, c2, by simp, by simp [Sh.szs], h1, fun y vs hy => ?_⟩
     simp only [List.set_cons_zero, CRs]
     exact ⟨vs, c2, by simp, hy, h2⟩
   | succ i =>
     simp at hi
     obtain ⟨pre, mid, post, e1, e2, e3, e4⟩ := ih h2 hi
     refine ⟨c1 ++ pre, mid, post, by simp [e1], by simp [e2, h1.len, AV.shs, Sh.szs], e3, fun y vs hy => ?_⟩
     simp only [List.set_cons_succ, CRs]
     exact ⟨c1, pre ++ (vs ++ post), by simp, h1, e4 y vs hy⟩
/-- A part of a value, by a path: its cells, and how it is written. -/
theorem CR.path : ∀ {p : List Nat} {c s : AV} {t : Sh} {off : Nat} {cs : List Value}, getAt c p = some s → PathTo c.sh p t off → CR E I F w c cs →
   t = s.sh ∧ ∃ pre mid post, cs = pre ++ (mid ++ post) ∧ pre.length = off ∧ CR E I F w s mid ∧
     ∀ v c' vs, setAt c p v = some c' → v.sh = t → CR E I F w v vs → CR E I F w c' (pre ++ (vs ++ post)) ∧ c'.sh = c.sh
 | [], c, s, t, off, cs, hg, hp, h => by
   simp only [getAt, Option.some.injEq] at hg
   subst hg
   generalize hsh : c.sh = s0 at hp
   cases hp
   subst hsh
   refine ⟨rfl, [], cs, [], by simp, rfl, h, fun v c' vs hs hv hvs => ?_⟩
   simp only [setAt, Option.some.injEq] at hs
   subst hs
   exact ⟨by simpa using hvs, hv⟩
 | i :: p, c, s, t, off, cs, hg, hp, h => by
   cases c with
   | agg l =>
     simp only [getAt] at hg
     simp only [AV.sh] at hp
     cases hp with
     | node hl hp =>
       rename_i sx off'
       cases hx : l[i]? with
       | none => rw [hx] at hg; cases hg
       | some x =>
         rw [hx] at hg
         have hsx := shs_get hx
         rw [hsx] at hl
         injection hl with hl
         subst hl
         simp only [CR] at h
         obtain ⟨pre, mid, post, e1, e2, e3, e4⟩ := h.split hx
         obtain ⟨rfl, pre', mid', post', f1, f2, f3, f4⟩ := CR.path hg hp e3
         refine ⟨rfl, pre ++ pre', mid', post' ++ post, by rw [e1, f1]; simp, by simp [e2, f2], f3, fun v c' vs hs hv hvs => ?_⟩
         simp only [setAt, hx] at hs
         split at hs
         · rename_i y hy
           injection hs with hs; subst hs
           obtain ⟨g1, g2⟩ := f4 v y vs hy hv hvs
           refine ⟨?_, ?_⟩
           · simp only [CR]
             have := e4 y _ g1
             simpa using this
           · simp only [AV.sh, shs_set hx g2]
         · cases hs
   | ar e n xs =>
     simp only [getAt] at hg
     simp only [AV.sh] at hp
     cases hp with
     | arr hi hp =>
       rename_i off'
       simp only [CR] at h
       obtain ⟨pre, mid, post, e1, e2, e3, e4⟩ := h.ar_split hi
       have hp' : PathTo (Am.ofD e (xs.getD i e.dflt)).sh p t off' := by rw [sh_ofD]; exact hp
       obtain ⟨rfl, pre', mid', post', f1, f2, f3, f4⟩ := CR.path hg hp' (CR.ofD e3)
       refine ⟨rfl, pre ++ pre', mid', post' ++ post, by rw [e1, f1]; simp, by simp [e2, f2, Ty.sz], f3, fun v c' vs hs hv hvs => ?_⟩
       simp only [setAt] at hs
       split at hs
       · rename_i y hy
         split at hs
         · rename_i d hd
           injection hs with hs; subst hs
           obtain ⟨g1, g2⟩ := f4 v y vs hy hv hvs
           refine ⟨?_, rfl⟩
           simp only [CR]
           have := e4 d _ (CD.of_toD hd g1)
           simpa using this
         · cases hs
       · cases hs
   | _ => simp [getAt] at hg
mutual
/-- Does a value name object o? -/
def AV.names (o : Nat) : AV → Bool
 | .own o' _ => Nat.beq o o'
 | .sub o' _ _ _ _ => Nat.beq o o'
 | .ptr o' _ _ => Nat.beq o o'
 | .mp o' => Nat.beq o o'
 | .yld o' => Nat.beq o o'
 | .pv c => c.names o
 | .agg l => AV.namesL o l
 | .clo _ l m => AV.namesL o l || AV.namesL o m
 | .tup l => AV.namesL o l
 | _ => false
def AV.namesL (o : Nat) : List AV → Bool
 | [] => false
 | a :: l => a.names o || AV.namesL o l
end
def verB : Option Nat → Option Nat → Bool
 | some a, some b => Nat.beq a b
 | none, none => true
 | _, _ => false
mutual
/-- Does a value name object o in version v (a map: 'none')? -/
def AV.has (o : Nat) (v : Option Nat) : AV → Bool
 | .own o' v' => Nat.beq o o' && verB v (some v')
 | .sub o' v' _ _ _ => Nat.beq o o' && verB v (some v')
 | .ptr o' v' _ => Nat.beq o o' && verB v (some v')
 | .mp o' => Nat.beq o o' && verB v none
 | .yld o' => Nat.beq o o' && verB v none
 | .pv c => c.has o v
 | .agg l => AV.hasL o v l
 | .clo _ l m => AV.hasL o v l || AV.hasL o v m
 | .tup l => AV.hasL o v l
 | _ => false
def AV.hasL (o : Nat) (v : Option Nat) : List AV → Bool
 | [] => false
 | a :: l => a.has o v || AV.hasL o v l
end
mutual
theorem AV.names_of_has {o : Nat} {v : Option Nat} : ∀ {a : AV}, a.has o v = true → a.names o = true
 | .own _ _, h => by simp only [AV.has, Bool.and_eq_true] at h; exact h.1
 | .sub _ _ _ _ _, h => by simp only [AV.has, Bool.and_eq_true] at h; exact h.1
 | .ptr _ _ _, h => by simp only [AV.has, Bool.and_eq_true] at h; exact h.1
 | .mp _, h => by simp only [AV.has, Bool.and_eq_true] at h; exact h.1
 | .yld _, h => by simp only [AV.has, Bool.and_eq_true] at h; exact h.1
 | .pv c, h => by simp only [AV.has] at h; simp only [AV.names]; exact AV.names_of_has h
 | .agg l, h => by simp only [AV.has] at h; simp only [AV.names]; exact AV.names_of_hasL h
 | .clo _ l m, h => by
   simp only [AV.has, Bool.or_eq_true] at h
   simp only [AV.names, Bool.or_eq_true]
   exact h.imp AV.names_of_hasL AV.names_of_hasL
 | .tup l, h => by simp only [AV.has] at h; simp only [AV.names]; exact AV.names_of_hasL h
 | .int _ _, h | .bool _, h | .tt, h | .ff, h | .pb _ _, h | .str _, h | .ar _ _ _, h | .sl _ _, h | .pt _ _, h | .vv _, h | .dead, h => by simp [AV.has] at h
theorem AV.names_of_hasL {o : Nat} {v : Option Nat} : ∀ {l : List AV}, AV.hasL o v l = true → AV.namesL o l = true
 | [], h => by simp [AV.hasL] at h
 | a :: l, h => by
   simp only [AV.hasL, Bool.or_eq_true] at h
   simp only [AV.namesL, Bool.or_eq_true]
   exact h.imp AV.names_of_has AV.names_of_hasL
end
/-- Two ghosts that agree at a name. -/
def Ag (E E' : Env) (I I' : Nat → Option Inf) (o : Nat) : Option Nat → Prop
 | some v => ∀ i, I' o = some i → i.ver = v → I o = some i ∧ E'.β o = E.β o ∧ E'.cap o = E.cap o
 | none => E'.β o = E.β o
theorem Ag.refl (E : Env) (I : Nat → Option Inf) (o : Nat) : ∀ v, Ag E E I I o v
 | some _ => fun _ h _ => ⟨h, rfl, rfl⟩
 | none => rfl
mutual
theorem CR.mono {E' : Env} {I' : Nat → Option Inf} {F' : Nat → Prop} {w' : World} (hF : ∀ b, F b → F' b ∧ w'.heap[b]? = w.heap[b]?) :
   ∀ {a : AV} {cs : List Value}, (∀ o v, a.has o v = true → Ag E E' I I' o v) → CR E I F w a cs → CR E' I' F' w' a cs
 | .int _ _, _, _, h => by simpa only [CR] using h
 | .bool _, _, _, h => by simpa only [CR] using h
 | .tt, _, _, h => by simpa only [CR] using h
 | .ff, _, _, h => by simpa only [CR] using h
 | .pb _ _, _, _, h => by simpa only [CR] using h
 | .str _, _, _, h => by simpa only [CR] using h
 | .agg l, cs, hA, h => by simp only [CR] at h ⊢; exact CRs.mono hF (fun o v ho => hA o v (by simpa [AV.has] using ho)) h
 | .ar e n xs, cs, _, h => by simp only [CR] at h ⊢; exact h.mono hF
 | .sl e xs, cs, _, h => by simp only [CR] at h ⊢; exact h.mono hF
 | .pt t x, cs, _, h => by
   simp only [CR] at h ⊢
   obtain ⟨ad, c, h1, h2, h3, h4⟩ := h
   exact ⟨ad, c, h1, (hF _ h2).1, h3.mono hF, h4.of_block (hF _ h2).2⟩
 | .pv c, cs, hA, h => by
   simp only [CR] at h ⊢
   obtain ⟨ad, cc, h1, h2, h3, h4⟩ := h
   exact ⟨ad, cc, h1, (hF _ h2).1, CR.mono hF (fun o v ho => hA o v (by simpa [AV.has] using ho)) h3, h4.of_block (hF _ h2).2⟩
 | .own o ver, cs, hA, h => by
   simp only [CR] at h ⊢
   refine ⟨h.1, h.2.1, fun n e hI => ?_⟩
   obtain ⟨a1, a2, a3⟩ := hA o (some ver) (by simp [AV.has, verB]) _ hI rfl
   rw [a2, a3]
   exact h.2.2 n e a1
 | .sub o ver p lo n, cs, hA, h => by
   simp only [CR] at h ⊢
   refine ⟨h.1, h.2.1, fun s hI => ?_⟩
   obtain ⟨a1, a2, a3⟩ := hA o (some ver) (by simp [AV.has, verB]) _ hI rfl
   rw [a2]
   exact h.2.2 s a1
 | .ptr o ver p, cs, hA, h => by
   simp only [CR] at h ⊢
   refine ⟨h.1, h.2.1, fun s hI => ?_⟩
   obtain ⟨a1, a2, a3⟩ := hA o (some ver) (by simp [AV.has, verB]) _ hI rfl
   rw [a2]
   exact h.2.2 s a1
 | .mp o, cs, hA, h => by
   simp only [CR] at h ⊢
   have : E'.β o = E.β o := hA o none (by simp [AV.has, verB])
   rw [this]; exact h
 | .yld o, cs, hA, h => by
   simp only [CR] at h ⊢
   have : E'.β o = E.β o := hA o none (by simp [AV.has, verB])
   rw [this]; exact h
 | .clo f l m, cs, hA, h => by
   simp only [CR] at h ⊢
   obtain ⟨vs, us, h1, h2, h3⟩ := h
   exact ⟨vs, us, h1, VRs.mono hF (fun o v ho => hA o v (by simp [AV.has, ho])) h2, VRs.mono hF (fun o v ho => hA o v (by simp [AV.has, ho])) h3⟩
 | .vv _, _, _, h => by simpa only [CR] using h
 | .tup _, _, _, h => by simp only [CR] at h
 | .dead, _, _, h => by simp only [CR] at h
theorem CRs.mono {E' : Env} {I' : Nat → Option Inf} {F' : Nat → Prop} {w' : World} (hF : ∀ b, F b → F' b ∧ w'.heap[b]? = w.heap[b]?) :
   ∀ {l : List AV} {cs : List Value}, (∀ o v, AV.hasL o v l = true → Ag E E' I I' o v) → CRs E I F w l cs → CRs E' I' F' w' l cs
 | [], _, _, h => by simpa only [CRs] using h
 | a :: l, cs, hA, h => by
   simp only [CRs] at h ⊢
   obtain ⟨c1, c2, h0, h1, h2⟩ := h
   exact ⟨c1, c2, h0, CR.mono hF (fun o v ho => hA o v (by simp [AV.hasL, ho])) h1, CRs.mono hF (fun o v ho => hA o v (by simp [AV.hasL, ho])) h2⟩
theorem VRs.mono {E' : Env} {I' : Nat → Option Inf} {F' : Nat → Prop} {w' : World} (hF : ∀ b, F b → F' b ∧ w'.heap[b]? = w.heap[b]?) :
   ∀ {l : List AV} {vs : List Value}, (∀ o v, AV.hasL o v l = true → Ag E E' I I' o v) → VRs E I F w l vs → VRs E' I' F' w' l vs
 | [], _, _, h => by simpa only [VRs] using h
 | a :: l, vs, hA, h => by
   simp only [VRs] at h ⊢
   obtain ⟨v, us, h0, h1, h2, h3⟩ := h
   exact ⟨v, us, h0, CR.mono hF (fun o v ho => hA o v (by simp [AV.hasL, ho])) h1, h2, VRs.mono hF (fun o v ho => hA o v (by simp [AV.hasL, ho])) h3⟩
end
end
end Go.Am

/- The abstract machine, part 2: objects, states, and how a state is met by a frame and a world. -/
namespace Go.Am
open Go
/-- What is said of the record of a loop over a function. -/
structure RcC where
 ixs : List Nat              -- the temporaries that are kept
 n : Nat                     -- how many there are
 ps : Array Tmp
 asg : Code
 body : Code
def RcC.Ok (C : RcC) (r : Loop) : Prop := r.params = C.ps ∧ r.assign = C.asg ∧ r.body = C.body ∧ r.tmps.size = C.n
/-- The values that are kept. -/
def RcC.Keeps (ixs : List Nat) (tmps : Array Value) (vs : List Value) : Prop := vs.length = ixs.length ∧ ∀ (i t : Nat), ixs[i]? = some t → tmps.getD t undef = vs.getD i undef
inductive Ob
 | bx (c : AV)
 | lp (C : RcC) (s : LoopState) (j : Option Code) (c : AV)
 | sc (ver : Nat) (te : TypeId) (e : Ty) (xs : List e.D)
 | mo (k v : Ty) (m : List (k.D × v.D))
 | gone
def Ob.inf : Ob → Option Inf
 | .bx c => some ⟨0, c.sh⟩
 | .lp _ _ _ _ => some ⟨0, .cell⟩
 | .sc ver _ e xs => some ⟨ver, .arr xs.length e.sh⟩
 | .mo _ _ _ => some ⟨0, .cell⟩
 | .gone => none
def Ob.names (o : Nat) : Ob → Bool
 | .bx c => c.names o
 | .lp _ _ _ c => c.names o
 | _ => false
def Ob.has (o : Nat) (v : Option Nat) : Ob → Bool
 | .bx c => c.has o v
 | .lp _ _ _ c => c.has o v
 | _ => false
theorem Ob.names_of_has {o : Nat} {v : Option Nat} {x : Ob} (h : x.has o v = true) : x.names o = true := by
 cases x <;> simp only [Ob.has] at h <;> first | (exact AV.names_of_has h) | (cases h)
def MR (F : Nat → Prop) (w : World) (k v : Ty) : List (k.D × v.D) → List MapEntry → Prop
 | [], es => es = []
 | x :: m, es => ∃ e es', es = e :: es' ∧ CD F w k x.1 e.key.cells.toList ∧ Shaped (ofD k x.1) e.key ∧ CD F w v x.2 e.val.cells.toList ∧ Shaped (ofD v x.2) e.val ∧ MR F w k v m es'
theorem MR.mono {F F' : Nat → Prop} {w w' : World} (hF : ∀ b, F b → F' b ∧ w'.heap[b]? = w.heap[b]?) {k v : Ty} : ∀ {m : List (k.D × v.D)} {es : List MapEntry}, MR F w k v m es → MR F' w' k v m es
 | [], _, h => h
 | x :: m, es, h => by
   simp only [MR] at h ⊢
   obtain ⟨e, es', h0, h1, h2, h3, h4, h5⟩ := h
   exact ⟨e, es', h0, h1.mono hF, h2, h3.mono hF, h4, h5.mono hF⟩
/-- An object, as it lies in the world. -/
def OR (E : Env) (I : Nat → Option Inf) (F : Nat → Prop) (w : World) (o : Nat) : Ob → Prop
 | .bx c => ∃ cs T, w.heap[E.β o]? = some (.cells cs T (0, 0)) ∧ CR E I F w c cs.toList
 | .lp C s j c => ∃ r vs, w.heap[E.β o]? = some (.loop r) ∧ (C.Ok r ∧ r.state = s ∧ r.pending = j) ∧ RcC.Keeps C.ixs r.tmps vs ∧ CR E I F w c [.func (.func 0) (List.toArray vs) #[]]
 | .sc _ te e xs => ∃ cs, w.heap[E.β o]? = some (.cells cs te (0, 0)) ∧ xs.length ≤ E.cap o ∧ E.cap o ≤ maxLen ∧ cs.size = E.cap o * e.sz ∧ xs.length ≤ 140737488355328 ∧
     CD F w (.ar xs.length e) xs (cs.toList.take (xs.length * e.sz))
 | .mo k v m => ∃ es clock, w.heap[E.β o]? = some (.map es clock) ∧ MR F w k v m es.toList
 | .gone => True
structure St where
 tm : List AV
 ob : List Ob
def St.inf (st : St) (o : Nat) : Option Inf := (st.ob[o]?).bind Ob.inf
def St.live (st : St) (o : Nat) : Prop := (st.inf o).isSome = true
/-- A temporary. -/
def TR (E : Env) (I : Nat → Option Inf) (F : Nat → Prop) (w : World) (a : AV) (v : Value) : Prop :=
 match a with
 | .dead => True
 | .tup l => ∃ vs, v = .tuple (List.toArray vs) ∧ VRs E I F w l vs
 | a => CR E I F w a v.cells.toList ∧ Shaped a v
/-- What the call was entered with. -/
structure En where
 w0 : World
 F0 : Nat → Prop
 E0 : Env
 m0 : Nat
 gl : Nat → Option ((t : Ty) × t.D)     -- package-level variables that read as known data
/-- The listed package-level variables read as they are listed. -/
def GlobOk (gl : Nat → Option ((t : Ty) × t.D)) (F : Nat → Prop) (w : World) : Prop := ∀ g p, gl g = some p → F g ∧ ∃ c, CD F w p.1 p.2 c ∧ CellsAt w ⟨g, 0, none⟩ c
theorem GlobOk.mono {gl : Nat → Option ((t : Ty) × t.D)} {F F' : Nat → Prop} {w w' : World} (hF : ∀ b, F b → F' b ∧ w'.heap[b]? = w.heap[b]?) (h : GlobOk gl F w) : GlobOk gl F' w' := by
 intro g p hp
 obtain ⟨h1, c, h2, h3⟩ := h g p hp
 exact ⟨(hF g h1).1, c, h2.mono hF, h3.of_block (hF g h1).2⟩
/-- What is to be done at the end: marks of loops over functions, in whose blocks nothing was laid. -/
def MarksOk (n0 : Nat) (F : Nat → Prop) (w : World) : List Deferred → Prop
 | [] => True
 | d :: l => (∃ D, d.target = .collected D ∧ n0 ≤ D ∧ F D ∧ w.heap[D]? = some (.deferred (some [])) ∧ ∀ d' ∈ l, d'.target ≠ .collected D) ∧ MarksOk n0 F w l
theorem MarksOk.mono {n0 : Nat} {F F' : Nat → Prop} {w w' : World} (hF : ∀ b, F b → F' b ∧ w'.heap[b]? = w.heap[b]?) : ∀ {l : List Deferred}, MarksOk n0 F w l → MarksOk n0 F' w' l
 | [], _ => trivial
 | _ :: _, h => by
   obtain ⟨⟨D, h1, h2, h3, h4, h5⟩, h6⟩ := h
   exact ⟨⟨D, h1, h2, (hF D h3).1, by rw [(hF D h3).2]; exact h4, h5⟩, h6.mono hF⟩
structure Rel (G : En) (E : Env) (F : Nat → Prop) (st : St) (a : Act) (w : World) : Prop where
 defers : MarksOk G.w0.heap.size F w a.defers
 size : a.tmps.size = st.tm.length
 tms : ∀ i x, st.tm[i]? = some x → TR E st.inf F w x (a.tmps.getD i undef)
 obs : ∀ o x, st.ob[o]? = some x → OR E st.inf F w o x
 apart : ∀ o, st.live o → ¬ F (E.β o) ∧ E.β o < w.heap.size
 inj : ∀ o o', st.live o → st.live o' → E.β o = E.β o' → o = o'
 frz : ∀ b, F b → b < w.heap.size
 new : ∀ b, F b → G.F0 b ∨ G.w0.heap.size ≤ b
 own : ∀ o, st.live o → G.w0.heap.size ≤ E.β o ∨ (o < G.m0 ∧ E.β o = G.E0.β o)
 os : w.os = G.w0.os
 tape : w.tape = G.w0.tape
 output : w.output = G.w0.output
 grow : G.w0.heap.size ≤ w.heap.size
 frame : ∀ b, b < G.w0.heap.size → (∀ o, o < G.m0 → G.E0.β o ≠ b) → w.heap[b]? = G.w0.heap[b]?
 glob : GlobOk G.gl F w
 stay : ∀ o i, o < G.m0 → st.inf o = some i → i.ver = 0 → E.β o = G.E0.β o ∧ E.cap o = G.E0.cap o
 live0 : ∀ o, o < G.m0 → st.live o
theorem TR.mono {E E' : Env} {I I' : Nat → Option Inf} {F F' : Nat → Prop} {w w' : World} (hF : ∀ b, F b → F' b ∧ w'.heap[b]? = w.heap[b]?) {a : AV} {v : Value}
   (hA : ∀ o v, a.has o v = true → Ag E E' I I' o v) (h : TR E I F w a v) : TR E' I' F' w' a v := by
 cases a with
 | dead => trivial
 | tup l =>
   simp only [TR] at h ⊢
   obtain ⟨vs, h1, h2⟩ := h
   exact ⟨vs, h1, VRs.mono hF (fun o v ho => hA o v (by simpa [AV.has] using ho)) h2⟩
 | _ => exact ⟨CR.mono hF hA h.1, h.2⟩
/-- An object that lies where it lay, its block as it was. -/
theorem OR.mono {E E' : Env} {I I' : Nat → Option Inf} {F F' : Nat → Prop} {w w' : World} (hF : ∀ b, F b → F' b ∧ w'.heap[b]? = w.heap[b]?) {o : Nat} {x : Ob}
   (hA : ∀ o v, x.has o v = true → Ag E E' I I' o v) (hβ : x.inf.isSome = true → E'.β o = E.β o ∧ E'.cap o = E.cap o ∧ w'.heap[E.β o]? = w.heap[E.β o]?) (h : OR E I F w o x) : OR E' I' F' w' o x := by
 cases x with
 | gone => trivial
 | bx c =>
   obtain ⟨b1, b2, b3⟩ := hβ rfl
   obtain ⟨cs, T, h1, h2⟩ := h
   exact ⟨cs, T, by rw [b1, b3]; exact h1, CR.mono hF (fun o v ho => hA o v (by simpa [Ob.has] using ho)) h2⟩
 | lp C s j c =>
   obtain ⟨b1, b2, b3⟩ := hβ rfl
   obtain ⟨r, vs, h1, h2, h3, h4⟩ := h
   exact ⟨r, vs, by rw [b1, b3]; exact h1, h2, h3, CR.mono hF (fun o v ho => hA o v (by simpa [Ob.has] using ho)) h4⟩
 | sc ver te e xs =>
   obtain ⟨b1, b2, b3⟩ := hβ rfl
   obtain ⟨cs, h1, h2, h3, h4, h5, h6⟩ := h
   exact ⟨cs, by rw [b1, b3]; exact h1, by rw [b2]; exact h2, by rw [b2]; exact h3, by rw [b2]; exact h4, h5, h6.mono hF⟩
 | mo k v m =>
   obtain ⟨b1, b2, b3⟩ := hβ rfl
   obtain ⟨es, cl, h1, h2⟩ := h
   exact ⟨es, cl, by rw [b1, b3]; exact h1, h2.mono hF⟩
theorem OR.block {E : Env} {I : Nat → Option Inf} {F : Nat → Prop} {w : World} {o : Nat} {x : Ob} (h : OR E I F w o x) (hl : x.inf.isSome = true) : ∃ ob, w.heap[E.β o]? = some ob := by
 cases x with
 | gone => simp [Ob.inf] at hl
 | bx c => obtain ⟨cs, T, h1, _⟩ := h; exact ⟨_, h1⟩
 | lp C s j c => obtain ⟨r, vs, h1, _⟩ := h; exact ⟨_, h1⟩
 | sc ver te e xs => obtain ⟨cs, h1, _⟩ := h; exact ⟨_, h1⟩
 | mo k v m => obtain ⟨es, cl, h1, _⟩ := h; exact ⟨_, h1⟩
def St.put (st : St) (d : Option Tmp) (x : AV) : St :=
 match d with
 | some d => { st with tm := st.tm.set d x }
 | none => st
theorem St.inf_put (st : St) (d : Option Tmp) (x : AV) : (st.put d x).inf = st.inf := by cases d <;> rfl
theorem St.ob_put (st : St) (d : Option Tmp) (x : AV) : (st.put d x).ob = st.ob := by cases d <;> rfl
theorem getD_setIf (xs : Array Value) (i d : Nat) (v : Value) (hd : d < xs.size) : (xs.setIfInBounds d v).getD i undef = if d = i then v else xs.getD i undef := by
 by_cases h : d = i
 · subst h; simp [Array.getD_eq_getD_getElem?, hd]
 · simp [Array.getD_eq_getD_getElem?, h]
section
variable {G : En} {E : Env} {F : Nat → Prop} {st : St} {a : Act} {w : World}
theorem Rel.put (h : Rel G E F st a w) {d : Option Tmp} {x : AV} {v : Value} (hd : ∀ i, d = some i → i < st.tm.length) (hx : d ≠ none → TR E st.inf F w x v) : Rel G E F (st.put d x) (a.put d v) w := by
 cases d with
 | none => exact h
 | some d =>
   have hd' := hd d rfl
   have hsz : d < a.tmps.size := by rw [h.size]; exact hd'
   refine { h with size := ?_, tms := ?_, defers := h.defers, obs := h.obs, apart := h.apart, inj := h.inj, own := h.own, stay := h.stay, live0 := h.live0 }
   · simp [Act.put, St.put, h.size]
   · intro i y hy
     simp only [Act.put, getD_setIf _ _ _ _ hsz]
     simp only [St.put, List.getElem?_set] at hy
     by_cases hdi : d = i
     · subst hdi
       simp only [if_true, hd'] at hy
       injection hy with hy; subst hy
       rw [St.inf_put]; simpa using hx (by simp)
     · simp only [hdi, if_false] at hy ⊢
       rw [St.inf_put]; exact h.tms i y hy
def setOb : List Ob → Nat → Ob → List Ob
 | [], 0, x => [x]
 | [], n + 1, x => .gone :: setOb [] n x
 | _ :: l, 0, x => x :: l
 | y :: l, n + 1, x => y :: setOb l n x
theorem setOb_get : ∀ (l : List Ob) (n : Nat) (x : Ob) (i : Nat), (setOb l n x)[i]? = if i = n then some x else if i < n then some (l.getD i .gone) else l[i]?
 | [], 0, x, 0 => by simp [setOb]
 | [], 0, x, i + 1 => by simp [setOb]
 | [], n + 1, x, 0 => by simp [setOb]
 | [], n + 1, x, i + 1 => by
   simp only [setOb, List.getElem?_cons_succ, setOb_get [] n x i]
   simp
 | y :: l, 0, x, 0 => by simp [setOb]
 | y :: l, 0, x, i + 1 => by simp [setOb]
 | y :: l, n + 1, x, 0 => by simp [setOb]
 | y :: l, n + 1, x, i + 1 => by
   simp only [setOb, List.getElem?_cons_succ, setOb_get l n x i]
   simp
def obInf (l : List Ob) (o : Nat) : Option Inf := (l[o]?).bind Ob.inf
theorem setOb_inf (l : List Ob) (n : Nat) (x : Ob) (o : Nat) : obInf (setOb l n x) o = if o = n then x.inf else obInf l o := by
 simp only [obInf, setOb_get]
 by_cases h : o = n
 · simp [h]
 · simp only [h, if_false]
   by_cases h2 : o < n
   · simp only [h2, if_true, Option.bind_some]
     cases hl : l[o]? with
     | none => simp [List.getD_eq_getElem?_getD, hl, Ob.inf]
     | some y => simp [List.getD_eq_getElem?_getD, hl]
   · simp [h2]
/-- Is object n not there, and named nowhere? -/
def namedIn (n : Nat) : List AV → Bool
 | [] => false
 | a :: l => a.names n || namedIn n l
def namedInO (n : Nat) : List Ob → Bool
 | [] => false
 | a :: l => a.names n || namedInO n l
def isFree : Option Ob → Bool
 | none | some .gone => true
 | _ => false
def St.fresh (st : St) (n : Nat) : Bool := isFree (st.ob[n]?) && !namedIn n st.tm && !namedInO n st.ob
theorem namedIn_mem {n : Nat} : ∀ {l : List AV} {i : Nat} {x : AV}, namedIn n l = false → l[i]? = some x → x.names n = false
 | [], i, x, _, h => by simp at h
 | a :: l, 0, x, h, hx => by simp at hx; subst hx; simp [namedIn] at h; exact h.1
 | a :: l, i + 1, x, h, hx => by simp at hx; simp [namedIn] at h; exact namedIn_mem h.2 hx
theorem namedInO_mem {n : Nat} : ∀ {l : List Ob} {i : Nat} {x : Ob}, namedInO n l = false → l[i]? = some x → x.names n = false
 | [], i, x, _, h => by simp at h
 | a :: l, 0, x, h, hx => by simp at hx; subst hx; simp [namedInO] at h; exact h.1
 | a :: l, i + 1, x, h, hx => by simp at hx; simp [namedInO] at h; exact namedInO_mem h.2 hx
theorem St.fresh_spec {st : St} {n : Nat} (h : st.fresh n = true) : st.inf n = none ∧ (∀ (i : Nat) (x : AV), st.tm[i]? = some x → x.names n = false) ∧ (∀ (i : Nat) (x : Ob), st.ob[i]? = some x → x.names n = false) := by
 simp only [St.fresh, Bool.and_eq_true, Bool.not_eq_true'] at h
 obtain ⟨⟨h1, h2⟩, h3⟩ := h
 refine ⟨?_, fun i x hx => namedIn_mem h2 hx, fun i x hx => namedInO_mem h3 hx⟩
 unfold isFree at h1
 simp only [St.inf]
 split at h1 <;> rename_i he
 · simp [he]
 · simp [he, Ob.inf]
 · cases h1
def Env.set (E : Env) (n b c : Nat) : Env := ⟨fun o => if o = n then b else E.β o, fun o => if o = n then c else E.cap o⟩
/-- The state with object n set. -/
def St.setO (st : St) (n : Nat) (x : Ob) : St := { st with ob := setOb st.ob n x }
theorem St.inf_setO (st : St) (n : Nat) (x : Ob) (o : Nat) : (st.setO n x).inf o = if o = n then x.inf else st.inf o := setOb_inf st.ob n x o
/-- A new block becomes an object. -/
theorem Rel.newOb (h : Rel G E F st a w) {n : Nat} (hf : st.fresh n = true) (x : Ob) (o : Go.Obj) (cap : Nat)
   (hx : OR (E.set n w.heap.size cap) (st.setO n x).inf F (w.alloc o) n x) : Rel G (E.set n w.heap.size cap) F (st.setO n x) a (w.alloc o) := by
 obtain ⟨f1, f2, f3⟩ := St.fresh_spec hf
 have hF : ∀ b, F b → F b ∧ (w.alloc o).heap[b]? = w.heap[b]? := fun b hb => ⟨hb, Go.RowKit.Below.heap_alloc w o b (h.frz b hb)⟩
 have hA : ∀ q v, q ≠ n → Ag E (E.set n w.heap.size cap) st.inf (st.setO n x).inf q v := fun q v hq => by
   cases v with
   | none => simp [Ag, Env.set, hq]
   | some v => exact fun i hi _ => ⟨by rw [St.inf_setO] at hi; simpa [hq] using hi, by simp [Env.set, hq], by simp [Env.set, hq]⟩
 have hlive : ∀ q, (st.setO n x).live q → q ≠ n → st.live q := fun q hq hn => by
   simp only [St.live, St.inf_setO, hn, if_false] at hq; exact hq
 refine { defers := h.defers.mono hF, size := h.size, tms := ?_, obs := ?_, apart := ?_, inj := ?_, frz := ?_, new := h.new, own := ?_, os := h.os, tape := h.tape, output := h.output, grow := ?_, frame := ?_, glob := h.glob.mono hF, stay := ?_, live0 := ?_ }
 · intro i y hy
   exact (h.tms i y hy).mono hF (fun q v hq => hA q v (fun e => by have hq := AV.names_of_has hq; rw [e] at hq; rw [f2 i y hy] at hq; cases hq))
 · intro q y hy
   by_cases hq : q = n
   · subst hq
     simp only [St.setO, setOb_get, if_true] at hy
     injection hy with hy; subst hy
     exact hx
   · simp only [St.setO, setOb_get, hq, if_false] at hy
     have hold : y = .gone ∨ st.ob[q]? = some y := by
       by_cases hlt : q < n
       · simp only [hlt, if_true] at hy
         injection hy with hy
         cases hl : st.ob[q]? with
         | none => left; rw [← hy]; simp [List.getD_eq_getElem?_getD, hl]
         | some z => right; rw [← hy]; simp [List.getD_eq_getElem?_getD, hl]
       · simp only [hlt, if_false] at hy
         exact .inr hy
     rcases hold with rfl | hold
     · trivial
     · refine (h.obs q y hold).mono hF (fun r v hr => hA r v (fun e => by have hr := Ob.names_of_has hr; rw [e] at hr; rw [f3 q y hold] at hr; cases hr)) (fun hl => ?_)
       have hlq : st.live q := by simp [St.live, St.inf, hold, hl]
       exact ⟨by simp [Env.set, hq], by simp [Env.set, hq], Go.RowKit.Below.heap_alloc w o _ (h.apart q hlq).2⟩
 · intro q hq
   by_cases hn : q = n
   · subst hn
     simp only [Env.set, if_true]
     exact ⟨fun hb => by have := h.frz _ hb; omega, by simp⟩
   · have := h.apart q (hlive q hq hn)
     simp only [Env.set, hn, if_false]
     exact ⟨this.1, by simp; omega⟩
 · intro q q' hq hq' he
   by_cases hn : q = n <;> by_cases hn' : q' = n
   · rw [hn, hn']
   · have := (h.apart q' (hlive q' hq' hn')).2
     simp [Env.set, hn, hn'] at he; omega
   · have := (h.apart q (hlive q hq hn)).2
     simp [Env.set, hn, hn'] at he; omega
   · simp [Env.set, hn, hn'] at he
     exact h.inj q q' (hlive q hq hn) (hlive q' hq' hn') he
 · intro b hb; have := h.frz b hb; simp; omega
 · intro q hq
   by_cases hn : q = n
   · subst hn; left; simp [Env.set]; exact h.grow
   · have := h.own q (hlive q hq hn)
     simpa [Env.set, hn] using this
 · have := h.grow; simp; omega
 · intro b hb ho
   rw [Go.RowKit.Below.heap_alloc w o b (by have := h.grow; omega)]
   exact h.frame b hb ho
 · intro q i hq hi h0
   have hqn : q ≠ n := fun e => by have := h.live0 q hq; rw [e, St.live, f1] at this; cases this
   rw [St.inf_setO, if_neg hqn] at hi
   simpa [Env.set, hqn] using h.stay q i hq hi h0
 · intro q hq
   have hqn : q ≠ n := fun e => by have := h.live0 q hq; rw [e, St.live, f1] at this; cases this
   have := h.live0 q hq
   simpa [St.live, St.inf_setO, hqn] using this
/-- An object's block is written. -/
theorem Rel.updOb (h : Rel G E F st a w) {n : Nat} {x y : Ob} {w' : World} (hn : st.ob[n]? = some x) (hl : x.inf.isSome = true) (hi : y.inf = x.inf)
   (hos : w'.os = w.os) (htape : w'.tape = w.tape) (hout : w'.output = w.output) (hsz : w'.heap.size = w.heap.size) (hb : ∀ b, b ≠ E.β n → w'.heap[b]? = w.heap[b]?)
   (hx : OR E st.inf F w' n y) : Rel G E F (st.setO n y) a w' := by
 have hln : st.live n := by simp [St.live, St.inf, hn, hl]
 have hF : ∀ b, F b → F b ∧ w'.heap[b]? = w.heap[b]? := fun b hb' => ⟨hb', hb b (fun e => (h.apart n hln).1 (e ▸ hb'))⟩
 have hinf : (st.setO n y).inf = st.inf := by
   funext q
   rw [St.inf_setO]
   by_cases hq : q = n
   · subst hq; simp [hi, St.inf, hn]
   · simp [hq]
 have hlive : ∀ q, (st.setO n y).live q → st.live q := fun q hq => by simpa only [St.live, hinf] using hq
 refine { defers := h.defers.mono hF, size := h.size, tms := ?_, obs := ?_, apart := ?_, inj := ?_, frz := ?_, new := h.new, own := ?_, os := by rw [hos, h.os], tape := by rw [htape, h.tape], output := by rw [hout, h.output], grow := by rw [hsz]; exact h.grow, frame := ?_, glob := h.glob.mono hF, stay := by rw [hinf]; exact h.stay, live0 := by simp only [St.live, hinf]; exact h.live0 }
 · intro i z hz
   rw [hinf]
   exact (h.tms i z hz).mono hF (fun q v _ => Ag.refl _ _ _ v)
 · intro q z hz
   rw [hinf]
   by_cases hq : q = n
   · subst hq
     simp only [St.setO, setOb_get, if_true] at hz
     injection hz with hz; subst hz; exact hx
   · have hold : st.ob[q]? = some z ∨ z = .gone := by
       simp only [St.setO, setOb_get, hq, if_false] at hz
       by_cases hlt : q < n
       · simp only [hlt, if_true] at hz
         injection hz with hz
         cases hl' : st.ob[q]? with
         | none => right; rw [← hz]; simp [List.getD_eq_getElem?_getD, hl']
         | some u => left; rw [← hz]; simp [List.getD_eq_getElem?_getD, hl']
       · simp only [hlt, if_false] at hz; exact .inl hz
     rcases hold with hold | rfl
     · refine (h.obs q z hold).mono hF (fun r v _ => Ag.refl _ _ _ v) (fun hlz => ⟨rfl, rfl, hb _ (fun e => hq ?_)⟩)
       exact h.inj q n (by simp [St.live, St.inf, hold, hlz]) hln e
     · trivial
 · intro q hq; rw [hsz]; exact h.apart q (hlive q hq)
 · intro q q' hq hq' he; exact h.inj q q' (hlive q hq) (hlive q' hq') he
 · intro b hb'; rw [hsz]; exact h.frz b hb'
 · intro q hq; exact h.own q (hlive q hq)
 · intro b hb' ho
   rw [hb b ?_]
   · exact h.frame b hb' ho
   · intro e
     rcases h.own n hln with h1 | ⟨h1, h2⟩
     · omega
     · exact ho n h1 (by rw [← h2, e])
end
end Go.Am

/- The abstract machine, part 3: what is known of types; the machine's small steps on memory. -/
namespace Go.Am
open Go
inductive Ds
 | int (k : IntKind) | bool | str
 | sl (e : TypeId) | ar (n : Nat) (e : TypeId) | st (fs : List (Nat × TypeId)) | mp (k e : TypeId) | pt (e : TypeId) | oth
def dsOf : TypeDesc → Ds
 | .int k => .int k
 | .bool => .bool
 | .string => .str
 | .slice e => .sl e
 | .array n e => .ar n e
 | .struct fs => .st (fs.toList.map fun f => (f.offset, f.type))
 | .map k e => .mp k e
 | .pointer e => .pt e
 | _ => .oth
structure TI where
 ds : Ds
 size : Nat
 bytes : Nat
 zv : Value
 zero : AV
 ty : Ty     -- of plain data; for others: whatever
 pure : Bool -- is it plain data?
 eq : Bool := false -- may it be compared part by part?
def Ds.agg : Ds → Bool
 | .st _ | .ar _ _ => true
 | _ => false
def shapedB (a : AV) (v : Value) : Bool :=
 match a.isAgg, v with
 | true, .agg _ => true
 | true, _ => false
 | false, .agg _ => false
 | false, _ => true
theorem shaped_of_B {a : AV} {v : Value} (h : shapedB a v = true) : Shaped a v := by
 unfold shapedB at h
 unfold Shaped
 split at h <;> simp_all [Value.cells]
/-- What comparing part by part asks of a type. -/
def eqFactB (P : Program) (T : TypeId) : Bool :=
 (match P.underlying T with
   | some (.struct fs) => !P.stoodInHeld T && fs.toList.all (fun f => f.name != "_")
   | _ => true) && !P.eqGuardType P.depth T
structure TI.Ok (P : Program) (T : TypeId) (ti : TI) : Prop where
 ds : (P.underlying T).map dsOf = some ti.ds
 info : (P.info? T).map (fun i => (i.size, i.bytes, i.zero)) = some (ti.size, ti.bytes, some ti.zv)
 lit : ti.zero.lit = some ti.zv.cells.toList
 shaped : shapedB ti.zero ti.zv = true
 agg : ti.ds.agg = ti.zero.isAgg
 zsz : ti.zv.cells.size = ti.size
 pur : ti.pure = true → litD ti.ty ti.ty.dflt = some ti.zv.cells.toList
 eqf : ti.eq = true → eqFactB P T = true := by intro h; cases h
theorem TI.Ok.under {P : Program} {T : TypeId} {ti : TI} (h : TI.Ok P T ti) : ∃ d, P.underlying T = some d ∧ dsOf d = ti.ds := by
 have := h.ds
 cases hu : P.underlying T with
 | none => rw [hu] at this; cases this
 | some d => rw [hu] at this; exact ⟨d, rfl, by simpa using this⟩
theorem TI.Ok.inf {P : Program} {T : TypeId} {ti : TI} (h : TI.Ok P T ti) : ∃ i, P.info? T = some i ∧ i.size = ti.size ∧ i.bytes = ti.bytes ∧ i.zero = some ti.zv := by
 have := h.info
 cases hu : P.info? T with
 | none => rw [hu] at this; cases this
 | some i => rw [hu] at this; simp at this; exact ⟨i, rfl, this⟩
section
variable {P : Program} {T : TypeId} {ti : TI} (h : TI.Ok P T ti) (w : World)
include h
theorem TI.Ok.run_sizeOf : (sizeOf T).run P w = .ok ti.size w := by
 obtain ⟨i, hi, h1, _⟩ := h.inf
 simp [sizeOf, typeInfo, hi, h1]
theorem TI.Ok.run_typeInfo : ∃ i, (typeInfo T).run P w = .ok i w ∧ i.size = ti.size ∧ i.bytes = ti.bytes ∧ i.zero = some ti.zv := by
 obtain ⟨i, hi, h1, h2, h3⟩ := h.inf
 exact ⟨i, by simp [typeInfo, hi], h1, h2, h3⟩
theorem TI.Ok.run_zeroValue : (zeroValue T).run P w = .ok ti.zv w := by
 obtain ⟨i, hi, h1, h2, h3⟩ := h.inf
 simp [zeroValue, typeInfo, hi, h3]
theorem TI.Ok.run_isAgg : (isAgg T).run P w = .ok ti.ds.agg w := by
 obtain ⟨d, hd, h1⟩ := h.under
 simp only [isAgg, Sem.run_bind, run_underlying hd, Result.andThen_ok]
 rw [← h1]
 cases d <;> rfl
end
/-- The value of cells, by a type that is made of cells or not. -/
def valOf (agg : Bool) (cs : List Value) : Value := if agg then .agg cs.toArray else cs.headD undef
theorem cells_valOf {agg : Bool} {cs : List Value} (h : agg = false → cs.length = 1) (h1 : ∀ v ∈ cs, v.oneCell' = true) : (valOf agg cs).cells.toList = cs := by
 cases agg with
 | true => rfl
 | false =>
   match cs, h rfl, h1 with
   | [v], _, h1 =>
     have := h1 v (by simp)
     simp only [valOf, List.headD_cons, Bool.false_eq_true, if_false]
     cases v <;> simp_all [Value.cells, Value.oneCell']
section
variable {P : Program} {w : World}
/-- A part of a block is loaded. -/
theorem run_loadVar_seg {T : TypeId} {ti : TI} (h : TI.Ok P T ti) {g off : Nat} {cs : Array Value} {t : TypeId} {fr : Nat × Nat} {pre mid post : List Value}
   (hg : w.heap[g]? = some (.cells cs t fr)) (hs : cs.toList = pre ++ (mid ++ post)) (hp : pre.length = off) (hm : mid.length = ti.size) (h1 : ti.ds.agg = false → ti.size = 1) :
   (loadVar T ⟨g, off, none⟩).run P w = .ok (valOf ti.ds.agg mid) w := by
 have hcell : ∀ j v, mid[j]? = some v → w.cell? ((⟨g, off, none⟩ : Addr).add j) = some v := by
   intro j v hv
   have hadd : (⟨g, off, none⟩ : Addr).add j = ⟨g, off + j, none⟩ := by unfold Addr.add; split <;> simp_all
   rw [hadd, cell_of_row w g (off + j) cs t fr hg]
   have hj : j < mid.length := by
     rcases Nat.lt_or_ge j mid.length with hj | hj
     · exact hj
     · rw [List.getElem?_eq_none hj] at hv; cases hv
   rw [← Array.getElem?_toList, hs, List.getElem?_append_right (by omega), hp, Nat.add_sub_cancel_left, List.getElem?_append_left hj]
   exact hv
 simp only [loadVar, Sem.run_bind, h.run_isAgg, Result.andThen_ok]
 cases ha : ti.ds.agg with
 | true =>
   simp only [if_true, Sem.run_bind, h.run_sizeOf, Result.andThen_ok, ← hm]
   simp only [run_loadCells_list w _ mid hcell, Result.andThen_ok, Sem.run_pure, valOf, if_true]
 | false =>
   have h2 := h1 ha
   rw [h2] at hm
   match mid, hm with
   | [v], _ =>
     have := hcell 0 v rfl
     rw [show ((⟨g, off, none⟩ : Addr).add 0) = ⟨g, off, none⟩ from rfl] at this
     simp [valOf, run_load, this]
/-- A part of a block is stored. -/
theorem run_storeVar_seg {T : TypeId} {ti : TI} (h : TI.Ok P T ti) {g off : Nat} {cs : Array Value} {t : TypeId} {pre mid post : List Value} {v : Value}
   (hg : w.heap[g]? = some (.cells cs t (0, 0))) (hs : cs.toList = pre ++ (mid ++ post)) (hp : pre.length = off) (hm : mid.length = ti.size) (hv : v.cells.size = ti.size)
   (h1 : ∀ u ∈ v.cells.toList, u.oneCell' = true) :
   (storeVar T ⟨g, off, none⟩ v).run P w = .ok () (w.setRow g (pre ++ (v.cells.toList ++ post)).toArray) := by
 have hlen : cs.size = pre.length + (mid.length + post.length) := by rw [← Array.length_toList, hs]; simp
 have := run_storeCells_at P g off t v.cells.toList 0 cs w hg (by simp; omega) h1
 simp only [storeVar, Sem.run_bind, h.run_sizeOf, Result.andThen_ok, hv, ne_eq, not_true_eq_false, if_false]
 simp only [Nat.add_zero] at this
 have hh : ((pure PUnit.unit : Sem PUnit).run P w).andThen (fun _ w' => (storeCells ⟨g, off, none⟩ v.cells.toList).run P w') = (storeCells ⟨g, off, none⟩ v.cells.toList).run P w := rfl
 simp only [Sem.run_pure, Result.andThen_ok, this]
 congr 2
 rw [hs, ← hp]
 have e1 : List.take pre.length (pre ++ (mid ++ post)) = pre := List.take_left
 have e2 : List.drop (pre.length + v.cells.toList.length) (pre ++ (mid ++ post)) = post := by
   rw [show v.cells.toList.length = mid.length by simp [hv, hm], ← List.drop_drop, List.drop_left, List.drop_left]
 rw [e1, e2, List.append_assoc]
theorem setRow_spec (g : Nat) (cs new : Array Value) (t : TypeId) (hg : w.heap[g]? = some (.cells cs t (0, 0))) :
   (w.setRow g new).heap[g]? = some (.cells new t (0, 0)) ∧ (w.setRow g new).os = w.os ∧ (w.setRow g new).tape = w.tape ∧ (w.setRow g new).output = w.output ∧
     (w.setRow g new).heap.size = w.heap.size ∧ ∀ b, b ≠ g → (w.setRow g new).heap[b]? = w.heap[b]? :=
 ⟨setRow_heap w g cs new t _ hg, rfl, rfl, rfl, by simp, fun b hb => setRow_other w g b new hb⟩
end
end Go.Am

/- The abstract machine, part 4: operations on numbers, bools and strings. -/
namespace Go.Am
open Go
def inR : IntKind → Int → Prop
 | .i64, n => -9223372036854775808 ≤ n ∧ n ≤ 9223372036854775807
 | .i32, n => -2147483648 ≤ n ∧ n ≤ 2147483647
 | .i16, n => -32768 ≤ n ∧ n ≤ 32767
 | .i8, n => -128 ≤ n ∧ n ≤ 127
 | .u64, n => 0 ≤ n ∧ n ≤ 18446744073709551615
 | .u32, n => 0 ≤ n ∧ n ≤ 4294967295
 | .u16, n => 0 ≤ n ∧ n ≤ 65535
 | .u8, n => 0 ≤ n ∧ n ≤ 255
theorem wrap_inR {k : IntKind} {n : Int} (h : inR k n) : k.wrap n = n := by
 cases k <;> simp only [inR] at h <;> simp [IntKind.wrap, IntKind.bits, IntKind.signed] <;> omega
/-- Unsigned numbers go round. -/
def modU : IntKind → Int → Int
 | .u64, n => n % 18446744073709551616
 | .u32, n => n % 4294967296
 | .u16, n => n % 65536
 | .u8, n => n % 256
 | k, n => k.wrap n
theorem wrap_modU (k : IntKind) (n : Int) : k.wrap n = modU k n := by
 cases k <;> simp [IntKind.wrap, IntKind.bits, IntKind.signed, modU]
def isU : IntKind → Bool
 | .u64 | .u32 | .u16 | .u8 => true
 | _ => false
def kEq : IntKind → IntKind → Bool
 | .i8, .i8 | .i16, .i16 | .i32, .i32 | .i64, .i64 | .u8, .u8 | .u16, .u16 | .u32, .u32 | .u64, .u64 => true
 | _, _ => false
theorem kEq_eq {a b : IntKind} (h : kEq a b = true) : a = b := by cases a <;> cases b <;> simp_all [kEq]
/-- A number that goes round (unsigned, or where it is asked for), or that must be in range. -/
def num (k : IntKind) (wr : Bool) (n : Int) : AV × Prop :=
 match isU k || wr with
 | true => (.int k (modU k n), True)
 | false => (.int k n, inR k n)
theorem num_spec {k : IntKind} {wr : Bool} {n : Int} {v : AV} {p : Prop} (h : num k wr n = (v, p)) (hp : p) : ∃ m, v = .int k m ∧ k.wrap n = m := by
 unfold num at h
 split at h
 · injection h with h1 h2; exact ⟨_, h1.symm, wrap_modU k n⟩
 · injection h with h1 h2; subst h2; exact ⟨_, h1.symm, wrap_inR hp⟩
/-- The bit operations, as the machine has them. -/
def bAnd (k : IntKind) (a b : Int) : Int := k.wrap ((BitVec.ofInt k.bits a &&& BitVec.ofInt k.bits b).toNat : Int)
def bOr (k : IntKind) (a b : Int) : Int := k.wrap ((BitVec.ofInt k.bits a ||| BitVec.ofInt k.bits b).toNat : Int)
def bXor (k : IntKind) (a b : Int) : Int := k.wrap ((BitVec.ofInt k.bits a ^^^ BitVec.ofInt k.bits b).toNat : Int)
def bNot (k : IntKind) (a b : Int) : Int := k.wrap ((BitVec.ofInt k.bits a &&& ~~~BitVec.ofInt k.bits b).toNat : Int)
def bitsOf : IntKind → Int
 | .i64 | .u64 => 64
 | .i32 | .u32 => 32
 | .i16 | .u16 => 16
 | .i8 | .u8 => 8
def binInt (wr : Bool) (op : BinOp) (k : IntKind) (a b : Int) : Option (AV × Prop) :=
 match op with
 | .add => some (num k wr (a + b))
 | .sub => some (num k wr (a - b))
 | .mul => some (num k wr (a * b))
 | .quo => some (.int k (a.tdiv b), b ≠ 0 ∧ inR k (a.tdiv b))
 | .rem => some (.int k (a.tmod b), b ≠ 0)
 | .and => some (.int k (bAnd k a b), True)
 | .or => some (.int k (bOr k a b), True)
 | .xor => some (.int k (bXor k a b), True)
 | .andNot => some (.int k (bNot k a b), True)
 | .eql => some (.pb (a = b) inferInstance, True)
 | .neq => some (.pb (¬ a = b) inferInstance, True)
 | .lss => some (.pb (a < b) inferInstance, True)
 | .leq => some (.pb (a ≤ b) inferInstance, True)
 | .gtr => some (.pb (b < a) inferInstance, True)
 | .geq => some (.pb (b ≤ a) inferInstance, True)
 | _ => none
def shInt (wr : Bool) (op : BinOp) (k : IntKind) (a b : Int) : Option (AV × Prop) :=
 match op with
 | .shl => some ((num k wr (a * 2 ^ b.toNat)).1, (0 ≤ b ∧ b < bitsOf k) ∧ (num k wr (a * 2 ^ b.toNat)).2)
 | .shr => some (.int k (a / 2 ^ b.toNat), 0 ≤ b ∧ b < bitsOf k)
 | _ => none
def isShift : BinOp → Bool
 | .shl | .shr => true
 | _ => false
def binBool (op : BinOp) (a b : Bool) : Option (AV × Prop) :=
 match op with
 | .eql => some (.bool (a == b), True)
 | .neq => some (.bool (a != b), True)
 | _ => none
def binStr (op : BinOp) (a b : ByteArray) : Option (AV × Prop) :=
 match op with
 | .add => some (.str (a ++ b), a.size + b.size ≤ 9223372036854775807)
 | .eql => some (.pb (a.toList = b.toList) inferInstance, True)
 | .neq => some (.pb (¬ a.toList = b.toList) inferInstance, True)
 | .lss => some (.bool (Op.bytesLess a.toList b.toList), True)
 | .leq => some (.bool (Op.bytesLess a.toList b.toList || a.toList == b.toList), True)
 | .gtr => some (.bool (!(Op.bytesLess a.toList b.toList || a.toList == b.toList)), True)
 | .geq => some (.bool (!(Op.bytesLess a.toList b.toList)), True)
 | _ => none
/-- Both are numbers, bools or strings. -/
def binS (wr : Bool) (op : BinOp) (x y : AV) : Option (AV × Prop) :=
 match x, y with
 | .int k a, .int k' b => match isShift op with
   | true => shInt wr op k a b
   | false => match kEq k k' with
     | true => binInt wr op k a b
     | false => none
 | .str a, .str b => binStr op a b
 | x, y => match toB x, toB y with
   | some a, some b => binBool op a b
   | _, _ => none
section
variable {P : Program} {w : World} {E : Env} {I : Nat → Option Inf} {F : Nat → Prop}
theorem int_val {k : IntKind} {n : Int} {v : Value} (h : TR E I F w (.int k n) v) : v = .int k n := by
 obtain ⟨h1, h2⟩ := h
 simp only [CR] at h1
 simp only [Shaped, AV.isAgg, Bool.false_eq_true, if_false] at h2
 rw [h2] at h1
 simpa using h1
theorem str_val {s : ByteArray} {v : Value} (h : TR E I F w (.str s) v) : v = .string s := by
 obtain ⟨h1, h2⟩ := h
 simp only [CR] at h1
 simp only [Shaped, AV.isAgg, Bool.false_eq_true, if_false] at h2
 rw [h2] at h1
 simpa using h1
theorem bool_val {a : AV} {b : Bool} {v : Value} (ht : toB a = some b) (h : TR E I F w a v) : v = .bool b := by
 cases a <;> simp only [toB] at ht <;> try (cases ht; done)
 all_goals
   obtain ⟨h1, h2⟩ := h
   simp only [CR] at h1
   simp only [Shaped, AV.isAgg, Bool.false_eq_true, if_false] at h2
   rw [h2] at h1
   injection ht with ht
   subst ht
   simpa using h1
theorem TR.int (k : IntKind) (n : Int) : TR E I F w (.int k n) (.int k n) := ⟨by simp [CR, Value.cells], by simp [Shaped, AV.isAgg, Value.cells]⟩
theorem TR.str (s : ByteArray) : TR E I F w (.str s) (.string s) := ⟨by simp [CR, Value.cells], by simp [Shaped, AV.isAgg, Value.cells]⟩
theorem TR.bool (b : Bool) : TR E I F w (.bool b) (.bool b) := ⟨by simp [CR, Value.cells], by simp [Shaped, AV.isAgg, Value.cells]⟩
theorem TR.pb (p : Prop) (d : Decidable p) : TR E I F w (.pb p d) (.bool (@decide p d)) := ⟨by simp [CR, Value.cells], by simp [Shaped, AV.isAgg, Value.cells]⟩
theorem TR.tt : TR E I F w .tt (.bool true) := ⟨by simp [CR, Value.cells], by simp [Shaped, AV.isAgg, Value.cells]⟩
theorem TR.ff : TR E I F w .ff (.bool false) := ⟨by simp [CR, Value.cells], by simp [Shaped, AV.isAgg, Value.cells]⟩
theorem num_TR {k : IntKind} {wr : Bool} {n : Int} (hp : (num k wr n).2) : TR E I F w (num k wr n).1 (.int k (k.wrap n)) := by
 obtain ⟨m, h1, h2⟩ := num_spec (v := (num k wr n).1) (p := (num k wr n).2) rfl hp
 rw [h1, h2]
 exact TR.int k m
theorem run_arith (op : BinOp) (k : IntKind) (a b : Int) (T : TypeId) (h : op = .add ∨ op = .sub ∨ op = .mul) : (binOp op T (.int k a) (.int k b)).run P w = (Op.intArith op k a b).run P w := by
 rcases h with rfl | rfl | rfl <;> simp [binOp]
theorem run_div (op : BinOp) (k : IntKind) (a b : Int) (T : TypeId) (h : op = .quo ∨ op = .rem) : (binOp op T (.int k a) (.int k b)).run P w = (Op.intDiv op k a b).run P w := by
 rcases h with rfl | rfl <;> simp [binOp]
theorem run_bits (op : BinOp) (k : IntKind) (a b : Int) (T : TypeId) (h : op = .and ∨ op = .or ∨ op = .xor ∨ op = .andNot) : (binOp op T (.int k a) (.int k b)).run P w = (Op.intBits op k a b).run P w := by
 rcases h with rfl | rfl | rfl | rfl <;> simp [binOp]
theorem run_cmp (op : BinOp) (k : IntKind) (a b : Int) (T : TypeId) (h : op = .eql ∨ op = .neq ∨ op = .lss ∨ op = .leq ∨ op = .gtr ∨ op = .geq) : (binOp op T (.int k a) (.int k b)).run P w = (Op.intCmp op a b).run P w := by
 rcases h with rfl | rfl | rfl | rfl | rfl | rfl <;> simp [binOp]
theorem run_binInt {wr : Bool} {op : BinOp} {k : IntKind} {a b : Int} {v : AV} {p : Prop} (h : binInt wr op k a b = some (v, p)) (hp : p) (T : TypeId) :
   ∃ u, (binOp op T (.int k a) (.int k b)).run P w = .ok u w ∧ TR E I F w v u := by
 cases op <;> simp only [binInt] at h <;> try (cases h; done)
 case add =>
   rw [run_arith _ _ _ _ _ (by simp)]
   injection h with h
   obtain ⟨m, rfl, h2⟩ := num_spec h hp
   exact ⟨.int k m, by rw [← h2]; rfl, TR.int _ _⟩
 case sub =>
   rw [run_arith _ _ _ _ _ (by simp)]
   injection h with h
   obtain ⟨m, rfl, h2⟩ := num_spec h hp
   exact ⟨.int k m, by rw [← h2]; rfl, TR.int _ _⟩
 case mul =>
   rw [run_arith _ _ _ _ _ (by simp)]
   injection h with h
   obtain ⟨m, rfl, h2⟩ := num_spec h hp
   exact ⟨.int k m, by rw [← h2]; rfl, TR.int _ _⟩
 case quo =>
   rw [run_div _ _ _ _ _ (by simp)]
   injection h with h; injection h with h1 h2; subst h1 h2
   exact ⟨.int k (a.tdiv b), by simp [Op.intDiv, hp.1, wrap_inR hp.2], TR.int _ _⟩
 case rem =>
   rw [run_div _ _ _ _ _ (by simp)]
   injection h with h; injection h with h1 h2; subst h1 h2
   exact ⟨.int k (a.tmod b), by simp [Op.intDiv, hp], TR.int _ _⟩
 case and =>
   rw [run_bits _ _ _ _ _ (by simp)]
   injection h with h; injection h with h1 h2; subst h1 h2
   exact ⟨_, rfl, TR.int _ _⟩
 case or =>
   rw [run_bits _ _ _ _ _ (by simp)]
   injection h with h; injection h with h1 h2; subst h1 h2
   exact ⟨_, rfl, TR.int _ _⟩
 case xor =>
   rw [run_bits _ _ _ _ _ (by simp)]
   injection h with h; injection h with h1 h2; subst h1 h2
   exact ⟨_, rfl, TR.int _ _⟩
 case andNot =>
   rw [run_bits _ _ _ _ _ (by simp)]
   injection h with h; injection h with h1 h2; subst h1 h2
   exact ⟨_, rfl, TR.int _ _⟩
 case eql =>
   rw [run_cmp _ _ _ _ _ (by simp)]
   injection h with h; injection h with h1 h2; subst h1
   refine ⟨.bool (a == b), rfl, ?_⟩
   have := TR.pb (E := E) (I := I) (F := F) (w := w) (a = b) inferInstance
   rwa [show (decide (a = b)) = (a == b) from (by cases hab : (a == b) <;> simp_all)] at this
 case neq =>
   rw [run_cmp _ _ _ _ _ (by simp)]
   injection h with h; injection h with h1 h2; subst h1
   refine ⟨.bool (a != b), rfl, ?_⟩
   have := TR.pb (E := E) (I := I) (F := F) (w := w) (¬ a = b) inferInstance
   rwa [show (decide (¬ a = b)) = (a != b) from (by cases hab : (a != b) <;> simp_all)] at this
 case lss =>
   rw [run_cmp _ _ _ _ _ (by simp)]
   injection h with h; injection h with h1 h2; subst h1
   exact ⟨_, rfl, TR.pb _ _⟩
 case leq =>
   rw [run_cmp _ _ _ _ _ (by simp)]
   injection h with h; injection h with h1 h2; subst h1
   exact ⟨_, rfl, TR.pb _ _⟩
 case gtr =>
   rw [run_cmp _ _ _ _ _ (by simp)]
   injection h with h; injection h with h1 h2; subst h1
   exact ⟨_, rfl, TR.pb _ _⟩
 case geq =>
   rw [run_cmp _ _ _ _ _ (by simp)]
   injection h with h; injection h with h1 h2; subst h1
   exact ⟨_, rfl, TR.pb _ _⟩
theorem bits_min {k : IntKind} {b : Int} (h : 0 ≤ b ∧ b < bitsOf k) : min b.toNat k.bits = b.toNat := by
 cases k <;> simp [bitsOf] at h <;> simp [IntKind.bits] <;> omega
theorem run_shInt {wr : Bool} {op : BinOp} {k k' : IntKind} {a b : Int} {v : AV} {p : Prop} (h : shInt wr op k a b = some (v, p)) (hp : p) (T : TypeId) :
   ∃ u, (binOp op T (.int k a) (.int k' b)).run P w = .ok u w ∧ TR E I F w v u := by
 cases op <;> simp only [shInt] at h <;> try (cases h; done)
 case shl =>
   injection h with h; injection h with h1 h2; subst h1 h2
   refine ⟨.int k (k.wrap (a * 2 ^ b.toNat)), ?_, num_TR hp.2⟩
   have hb := bits_min hp.1
   have h0 : ¬ b < 0 := by omega
   simp [binOp, Op.shift, h0, hb]
 case shr =>
   injection h with h; injection h with h1 h2; subst h1 h2
   refine ⟨.int k (a / 2 ^ b.toNat), ?_, TR.int _ _⟩
   have hb := bits_min hp
   have h0 : ¬ b < 0 := by omega
   have hd : a.fdiv (2 ^ b.toNat) = a / 2 ^ b.toNat := by
     rw [Int.fdiv_eq_ediv_of_nonneg]
     exact Int.le_of_lt (Int.pow_pos (by omega))
   simp [binOp, Op.shift, h0, hb, hd]
theorem run_strOp (op : BinOp) (a b : ByteArray) (T : TypeId) : (binOp op T (.string a) (.string b)).run P w = (Op.stringOp op a b).run P w := by
 cases op <;> simp [binOp]
theorem run_binStr {op : BinOp} {a b : ByteArray} {v : AV} {p : Prop} (h : binStr op a b = some (v, p)) (hp : p) (T : TypeId) :
   ∃ u, (binOp op T (.string a) (.string b)).run P w = .ok u w ∧ TR E I F w v u := by
 rw [run_strOp]
 cases op <;> simp only [binStr] at h <;> try (cases h; done)
 case add =>
   injection h with h; injection h with h1 h2; subst h1 h2
   refine ⟨.string (a ++ b), ?_, TR.str _⟩
   have : ¬ (((a.size + b.size : Nat) : Int) > IntKind.i64.max) := by
     simp only [IntKind.max, IntKind.bits, IntKind.signed]; simp only [if_true]; omega
   simp only [Op.stringOp, this, if_false]; rfl
 case eql =>
   injection h with h; injection h with h1 h2; subst h1
   refine ⟨.bool (a.toList == b.toList), rfl, ?_⟩
   have := TR.pb (E := E) (I := I) (F := F) (w := w) (a.toList = b.toList) inferInstance
   rwa [show (decide (a.toList = b.toList)) = (a.toList == b.toList) from (by cases hab : (a.toList == b.toList) <;> simp_all)] at this
 case neq =>
   injection h with h; injection h with h1 h2; subst h1
   refine ⟨.bool (!(a.toList == b.toList)), rfl, ?_⟩
   have := TR.pb (E := E) (I := I) (F := F) (w := w) (¬ a.toList = b.toList) inferInstance
   rwa [show (decide (¬ a.toList = b.toList)) = (!(a.toList == b.toList)) from (by cases hab : (a.toList == b.toList) <;> simp_all)] at this
 case lss =>
   injection h with h; injection h with h1 h2; subst h1
   exact ⟨_, rfl, TR.bool _⟩
 case leq =>
   injection h with h; injection h with h1 h2; subst h1
   exact ⟨_, rfl, TR.bool _⟩
 case gtr =>
   injection h with h; injection h with h1 h2; subst h1
   exact ⟨_, rfl, TR.bool _⟩
 case geq =>
   injection h with h; injection h with h1 h2; subst h1
   exact ⟨_, rfl, TR.bool _⟩
theorem run_equalIn_bool {T : TypeId} (hT : P.underlying T = some .bool) (n : Nat) (a b : Bool) : (Op.equalIn (n + 1) T (.bool a) (.bool b)).run P w = .ok (a == b) w := by
 simp [Op.equalIn, run_underlying hT]
theorem run_equal_bool {T : TypeId} (hT : P.underlying T = some .bool) (a b : Bool) : (Op.equal T (.bool a) (.bool b)).run P w = .ok (a == b) w := run_equalIn_bool hT 9999 a b
theorem run_binBool {op : BinOp} {a b : Bool} {v : AV} {p : Prop} (h : binBool op a b = some (v, p)) {T : TypeId} (hT : P.underlying T = some .bool) :
   ∃ u, (binOp op T (.bool a) (.bool b)).run P w = .ok u w ∧ TR E I F w v u := by
 cases op <;> simp only [binBool] at h <;> try (cases h; done)
 case eql =>
   injection h with h; injection h with h1 h2; subst h1
   have e : binOp .eql T (.bool a) (.bool b) = (do pure (.bool (← Op.equal T (.bool a) (.bool b)))) := rfl
   exact ⟨.bool (a == b), by rw [e]; simp only [Sem.run_bind, run_equal_bool hT, Result.andThen_ok, Sem.run_pure], TR.bool _⟩
 case neq =>
   injection h with h; injection h with h1 h2; subst h1
   have e : binOp .neq T (.bool a) (.bool b) = (do pure (.bool (!(← Op.equal T (.bool a) (.bool b))))) := rfl
   exact ⟨.bool (a != b), by rw [e]; simp only [Sem.run_bind, run_equal_bool hT, Result.andThen_ok, Sem.run_pure]; rfl, TR.bool _⟩
end
end Go.Am

/- The abstract machine, part 5: operations that only read. -/
namespace Go.Am
open Go
/-- What is known once and for all. -/
structure Cx where
 P : Program
 tt : TypeId → Option TI
 hs : Nat → Bool          -- temporaries that go round
structure Cx.Ok (X : Cx) : Prop where
 tt : ∀ T ti, X.tt T = some ti → TI.Ok X.P T ti
def constA : Value → Option AV
 | .int k n => some (.int k n)
 | .bool true => some .tt
 | .bool false => some .ff
 | .string s => some (.str s)
 | .pointer none => some (.vv (.pointer none))
 | .slice none a b => some (.vv (.slice none a b))
 | .map none => some (.vv (.map none))
 | .nilFunc => some (.vv .nilFunc)
 | .nilIface => some (.vv .nilIface)
 | _ => none
def undead : AV → Option AV
 | .dead => none
 | a => some a
def evalA (gl : Nat → Option ((t : Ty) × t.D)) (st : St) : Operand → Option AV
 | .tmp t => (match st.tm[t]? with
   | some a => undead a
   | none => none)
 | .const v => constA v
 | .func f => some (.clo f [] [])
 | .global g => (match gl g with
   | some p => some (.pt p.1 p.2)
   | none => none)
/-- What lies in object o, if 'ver' is its version. -/
def content (st : St) (o ver : Nat) : Option AV :=
 match st.ob[o]? with
 | some (.bx c) => (match Nat.beq ver 0 with
   | true => some c
   | false => none)
 | some (.sc v _ e xs) => (match Nat.beq ver v with
   | true => some (.ar e xs.length xs)
   | false => none)
 | _ => none
section
variable {G : En} {E : Env} {F : Nat → Prop} {st : St} {a : Act} {w : World}
theorem Rel.eval (h : Rel G E F st a w) {x : Operand} {v : AV} (hx : evalA G.gl st x = some v) : TR E st.inf F w v (a.eval x) := by
 cases x with
 | tmp t =>
   simp only [evalA] at hx
   split at hx
   · rename_i y hy
     have : y = v := by unfold undead at hx; split at hx <;> first | (cases hx; done) | (injection hx)
     subst this
     exact h.tms t y hy
   · cases hx
 | const v' =>
   simp only [evalA] at hx
   unfold constA at hx
   split at hx <;> first | (cases hx; done) | (injection hx with hx; subst hx; exact ⟨by simp [CR, Act.eval, Value.cells, Value.oneCell'], by simp [Shaped, AV.isAgg, Act.eval, Value.cells]⟩)
 | func f =>
   simp only [evalA] at hx
   injection hx with hx; subst hx
   exact ⟨by simp [CR, VRs, Act.eval, Value.cells], by simp [Shaped, AV.isAgg, Act.eval, Value.cells]⟩
 | global g =>
   simp only [evalA] at hx
   split at hx
   · rename_i p hp
     injection hx with hx; subst hx
     obtain ⟨h1, c, h2, h3⟩ := h.glob g p hp
     refine ⟨?_, by simp [Shaped, AV.isAgg, Act.eval, Value.cells]⟩
     simp only [CR]
     exact ⟨⟨g, 0, none⟩, c, by simp [Act.eval, Value.cells], h1, h2, h3⟩
   · cases hx
theorem content_spec {o ver : Nat} {c : AV} (hc : content st o ver = some c) : ∃ x, st.ob[o]? = some x ∧ x.inf = some ⟨ver, c.sh⟩ ∧ st.inf o = some ⟨ver, c.sh⟩ := by
 unfold content at hc
 split at hc
 · rename_i c' ho
   split at hc
   · rename_i hv
     injection hc with hc; subst hc
     have := Nat.eq_of_beq_eq_true hv
     subst this
     exact ⟨_, ho, rfl, by simp [St.inf, ho, Ob.inf]⟩
   · cases hc
 · rename_i v te e xs ho
   split at hc
   · rename_i hv
     injection hc with hc; subst hc
     have := Nat.eq_of_beq_eq_true hv
     subst this
     exact ⟨_, ho, rfl, by simp [St.inf, ho, Ob.inf, AV.sh]⟩
   · cases hc
 · cases hc
theorem Rel.content (h : Rel G E F st a w) {o ver : Nat} {c : AV} (hc : content st o ver = some c) :
   ∃ cs T c0 rest, w.heap[E.β o]? = some (.cells cs T (0, 0)) ∧ cs.toList = c0 ++ rest ∧ CR E st.inf F w c c0 := by
 unfold Am.content at hc
 split at hc
 · rename_i c' ho
   split at hc
   · injection hc with hc; subst hc
     obtain ⟨cs, T, h1, h2⟩ := h.obs _ _ ho
     exact ⟨cs, T, cs.toList, [], h1, by simp, h2⟩
   · cases hc
 · rename_i v te e xs ho
   split at hc
   · injection hc with hc; subst hc
     obtain ⟨cs, h1, h2, h3, h4, h5, h6⟩ := h.obs _ _ ho
     exact ⟨cs, te, _, cs.toList.drop (xs.length * e.sz), h1, (List.take_append_drop _ _).symm, by simpa only [CR] using h6⟩
   · cases hc
 · cases hc
/-- A value of a type's own form. -/
theorem TR.of_CR {E : Env} {I : Nat → Option Inf} {s : AV} {cs : List Value} (h : CR E I F w s cs) : TR E I F w s (valOf s.isAgg cs) := by
 have h1 := h.one
 have hl : s.isAgg = false → cs.length = 1 := by
   intro hs
   rw [h.len]
   cases s <;> simp_all [AV.isAgg, AV.sh, Sh.sz]
 have hc := cells_valOf hl h1
 have hsh : Shaped s (valOf s.isAgg cs) := by
   unfold Shaped
   cases hs : s.isAgg with
   | true => simp [valOf]
   | false =>
     have h2 := hl hs
     match cs, h2, h1 with
     | [v], _, h1 =>
       have := h1 v (by simp)
       simp only [valOf, List.headD_cons, Bool.false_eq_true, if_false]
       cases v <;> simp_all [Value.cells, Value.oneCell']
 cases s with
 | dead => simp only [CR] at h
 | tup l => simp only [CR] at h
 | _ => exact ⟨by rw [hc]; exact h, hsh⟩
end
def fits (ti : TI) (s : AV) : Bool := Nat.beq ti.size s.sh.sz && (ti.ds.agg == s.isAgg)
def loadA (X : Cx) (st : St) (T : TypeId) (x : AV) : Option (AV × Prop) :=
 match X.tt T with
 | none => none
 | some ti =>
   match x with
   | .ptr o ver p => (match content st o ver with
     | some c => (match getAt c p with
       | some s => (match fits ti s with
         | true => some (s, True)
         | false => none)
       | none => none)
     | none => none)
   | .pt t d => (match fits ti (ofD t d) with
     | true => some (ofD t d, True)
     | false => none)
   | .pv c => (match fits ti c with
     | true => some (c, True)
     | false => none)
   | _ => none
section
variable {X : Cx} {G : En} {E : Env} {F : Nat → Prop} {st : St} {a : Act} {w : World}
theorem one_ptr {I : Nat → Option Inf} {o ver : Nat} {p : List Nat} {u : Value} (h : TR E I F w (.ptr o ver p) u) {s : Sh} (hI : I o = some ⟨ver, s⟩) : ∃ t off, PathTo s p t off ∧ u = .pointer (some ⟨E.β o, off, none⟩) := by
 obtain ⟨h1, h2⟩ := h
 simp only [CR] at h1
 obtain ⟨t, off, h3, h4⟩ := h1.2.2 s hI
 simp only [Shaped, AV.isAgg, Bool.false_eq_true, if_false] at h2
 rw [h2] at h4
 simp at h4
 exact ⟨t, off, h3, h4⟩
theorem one_pt {I : Nat → Option Inf} {t : Ty} {d : t.D} {u : Value} (h : TR E I F w (.pt t d) u) : ∃ ad c, u = .pointer (some ad) ∧ F ad.block ∧ CD F w t d c ∧ CellsAt w ad c := by
 obtain ⟨h1, h2⟩ := h
 simp only [CR] at h1
 obtain ⟨ad, c, h3, h4, h5, h6⟩ := h1
 simp only [Shaped, AV.isAgg, Bool.false_eq_true, if_false] at h2
 rw [h2] at h3
 simp at h3
 exact ⟨ad, c, h3, h4, h5, h6⟩
theorem one_pv {I : Nat → Option Inf} {c : AV} {u : Value} (h : TR E I F w (.pv c) u) : ∃ ad cc, u = .pointer (some ad) ∧ F ad.block ∧ CR E I F w c cc ∧ CellsAt w ad cc := by
 obtain ⟨h1, h2⟩ := h
 simp only [CR] at h1
 obtain ⟨ad, c, h3, h4, h5, h6⟩ := h1
 simp only [Shaped, AV.isAgg, Bool.false_eq_true, if_false] at h2
 rw [h2] at h3
 simp at h3
 exact ⟨ad, c, h3, h4, h5, h6⟩
theorem fits_spec {ti : TI} {s : AV} (h : fits ti s = true) : ti.size = s.sh.sz ∧ ti.ds.agg = s.isAgg := by
 simp only [fits, Bool.and_eq_true, beq_iff_eq] at h
 exact ⟨Nat.eq_of_beq_eq_true h.1, h.2⟩
theorem size_one {s : AV} (h : s.isAgg = false) : s.sh.sz = 1 := by cases s <;> simp_all [AV.isAgg, AV.sh, Sh.sz]
theorem run_loadVar_cells {P : Program} {T : TypeId} {ti : TI} (h : TI.Ok P T ti) {ad : Addr} {cs : List Value} (hc : CellsAt w ad cs) (hl : cs.length = ti.size) (h1 : ti.ds.agg = false → ti.size = 1) :
   (loadVar T ad).run P w = .ok (valOf ti.ds.agg cs) w := by
 have hcell : ∀ j v, cs[j]? = some v → w.cell? (ad.add j) = some v := by
   intro j v hv
   obtain ⟨hj, rfl⟩ := List.getElem?_eq_some_iff.1 hv
   exact hc j hj
 simp only [loadVar, Sem.run_bind, h.run_isAgg, Result.andThen_ok]
 cases ha : ti.ds.agg with
 | true =>
   simp only [if_true, Sem.run_bind, h.run_sizeOf, Result.andThen_ok, ← hl]
   simp only [run_loadCells_list w _ cs hcell, Result.andThen_ok, Sem.run_pure, valOf, if_true]
 | false =>
   have h2 := h1 ha
   rw [h2] at hl
   match cs, hl with
   | [v], _ =>
     have := hcell 0 v rfl
     rw [show ad.add 0 = ad from rfl] at this
     simp [valOf, run_load, this]
theorem run_loadA (hX : X.Ok) (h : Rel G E F st a w) {T : TypeId} {x : AV} {u : Value} {v : AV} {p : Prop} (hx : TR E st.inf F w x u) (hl : loadA X st T x = some (v, p)) :
   ∃ r, (Instr.loadAt T u).run X.P w = .ok r w ∧ TR E st.inf F w v r := by
 unfold loadA at hl
 split at hl
 · cases hl
 · rename_i ti hti
   have ok := hX.tt _ _ hti
   split at hl
   · rename_i o ver p'
     split at hl <;> try (cases hl; done)
     rename_i c hc
     split at hl <;> try (cases hl; done)
     rename_i s hs
     split at hl <;> try (cases hl; done)
     rename_i hf
     injection hl with hl; injection hl with h1 h2; subst h1
     obtain ⟨f1, f2⟩ := fits_spec hf
     obtain ⟨ob, ho, hi, hI⟩ := content_spec hc
     obtain ⟨t, off, hp, rfl⟩ := one_ptr hx hI
     obtain ⟨cs, T', c0, rest, g1, g2, g3⟩ := h.content hc
     obtain ⟨rfl, pre, mid, post, e1, e2, e3, _⟩ := CR.path hs hp g3
     have := run_loadVar_seg ok (w := w) (off := off) (pre := pre) (mid := mid) (post := post ++ rest) g1 (by rw [g2, e1]; simp) e2 (by rw [e3.len, f1]) (fun ha => by rw [f1]; exact size_one (by rw [← f2]; exact ha))
     refine ⟨_, by simp only [Instr.loadAt, Instr.sureAddr, Sem.run_bind, Sem.run_pure, Result.andThen_ok]; exact this, ?_⟩
     rw [f2]
     exact TR.of_CR e3
   · rename_i t d
     split at hl <;> try (cases hl; done)
     rename_i hf
     injection hl with hl; injection hl with h1 h2; subst h1
     obtain ⟨f1, f2⟩ := fits_spec hf
     obtain ⟨ad, c, rfl, hF, hc, hat⟩ := one_pt hx
     have hcr : CR E st.inf F w (ofD t d) c := CR.ofD hc
     have := run_loadVar_cells ok hat (by rw [hcr.len, f1]) (fun ha => by rw [f1]; exact size_one (by rw [← f2]; exact ha))
     refine ⟨_, by simp only [Instr.loadAt, Instr.sureAddr, Sem.run_bind, Sem.run_pure, Result.andThen_ok]; exact this, ?_⟩
     rw [f2]
     exact TR.of_CR hcr
   · rename_i c
     split at hl <;> try (cases hl; done)
     rename_i hf
     injection hl with hl; injection hl with h1 h2; subst h1
     obtain ⟨f1, f2⟩ := fits_spec hf
     obtain ⟨ad, cc, rfl, hF, hcr, hat⟩ := one_pv hx
     have := run_loadVar_cells ok hat (by rw [hcr.len, f1]) (fun ha => by rw [f1]; exact size_one (by rw [← f2]; exact ha))
     refine ⟨_, by simp only [Instr.loadAt, Instr.sureAddr, Sem.run_bind, Sem.run_pure, Result.andThen_ok]; exact this, ?_⟩
     rw [f2]
     exact TR.of_CR hcr
   · cases hl
end
end Go.Am

/- The abstract machine, part 6: addresses, fields, elements. -/
namespace Go.Am
open Go
theorem add_add (a : Addr) (m j : Nat) : (a.add m).add j = a.add (m + j) := by
 unfold Addr.add
 by_cases h1 : m = 0
 · subst h1; simp
 · by_cases h2 : j = 0
   · subst h2; simp
   · simp [h1, h2, Nat.add_assoc]
theorem CellsAt.sub {w : World} {ad : Addr} {pre mid post : List Value} (h : CellsAt w ad (pre ++ (mid ++ post))) : CellsAt w (ad.add pre.length) mid := by
 intro j hj
 rw [add_add]
 have := h (pre.length + j) (by simp; omega)
 rw [this]
 congr 1
 simp [List.getElem_append_right, List.getElem_append_left hj]
theorem szs_replicate (e : Sh) : ∀ k : Nat, Sh.szs (List.replicate k e) = k * e.sz
 | 0 => by simp [Sh.szs]
 | k + 1 => by rw [List.replicate_succ, Sh.szs, szs_replicate e k, Nat.add_mul, Nat.one_mul, Nat.add_comm]
theorem PathTo.snoc_nodes {s : Sh} {p : List Nat} {t : Sh} {off : Nat} (h : PathTo s p t off) : ∀ {n : Nat} {e : Sh} {i : Nat}, t = .node (List.replicate n e) → i < n → PathTo s (p ++ [i]) e (off + i * e.sz) := by
 induction h with
 | here s =>
   intro n e i ht hi
   subst ht
   have := PathTo.node (i := i) (by rw [List.getElem?_replicate, if_pos hi]) (PathTo.here e)
   rw [List.take_replicate, szs_replicate, Nat.min_eq_left (by omega)] at this
   simpa using this
 | node hl hp ih =>
   intro n e i ht hi
   have := PathTo.node hl (ih ht hi)
   simpa [Nat.add_assoc] using this
 | arr hi' hp ih =>
   intro n e i ht hi
   have := PathTo.arr hi' (ih ht hi)
   simpa [Nat.add_assoc] using this
theorem PathTo.snoc_arr {s : Sh} {p : List Nat} {t : Sh} {off : Nat} (h : PathTo s p t off) : ∀ {n : Nat} {e : Sh} {i : Nat}, t = .arr n e → i < n → PathTo s (p ++ [i]) e (off + i * e.sz) := by
 induction h with
 | here s =>
   intro n e i ht hi
   subst ht
   have := PathTo.arr hi (PathTo.here e)
   simpa using this
 | node hl hp ih =>
   intro n e i ht hi
   have := PathTo.node hl (ih ht hi)
   simpa [Nat.add_assoc] using this
 | arr hi' hp ih =>
   intro n e i ht hi
   have := PathTo.arr hi' (ih ht hi)
   simpa [Nat.add_assoc] using this
theorem PathTo.snoc_node {s : Sh} {p : List Nat} {t : Sh} {off : Nat} (h : PathTo s p t off) : ∀ {l : List Sh} {u : Sh} {i : Nat}, t = .node l → l[i]? = some u → PathTo s (p ++ [i]) u (off + Sh.szs (l.take i)) := by
 induction h with
 | here s =>
   intro l u i ht hi
   subst ht
   have := PathTo.node hi (PathTo.here u)
   simpa using this
 | node hl hp ih =>
   intro l u i ht hi
   have := PathTo.node hl (ih ht hi)
   simpa [Nat.add_assoc] using this
 | arr hi' hp ih =>
   intro l u i ht hi
   have := PathTo.arr hi' (ih ht hi)
   simpa [Nat.add_assoc] using this
/-- A field of plain data: its type, the datum, where it begins. -/
def fieldT : (t : Ty) → t.D → Nat → Option ((t' : Ty) × t'.D × Nat)
 | .s1 a, d, 0 => some ⟨a, d, 0⟩
 | .s2 a _, d, 0 => some ⟨a, d.1, 0⟩
 | .s2 a b, d, 1 => some ⟨b, d.2, a.sz⟩
 | .s3 a _ _, d, 0 => some ⟨a, d.1, 0⟩
 | .s3 a b _, d, 1 => some ⟨b, d.2.1, a.sz⟩
 | .s3 a b c, d, 2 => some ⟨c, d.2.2, a.sz + b.sz⟩
 | .s4 a _ _ _, d, 0 => some ⟨a, d.1, 0⟩
 | .s4 a b _ _, d, 1 => some ⟨b, d.2.1, a.sz⟩
 | .s4 a b c _, d, 2 => some ⟨c, d.2.2.1, a.sz + b.sz⟩
 | .s4 a b c d', d, 3 => some ⟨d', d.2.2.2, a.sz + b.sz + c.sz⟩
 | _, _, _ => none
theorem fieldT_spec {F : Nat → Prop} {w : World} {t : Ty} {d : t.D} {f : Nat} {r : (t' : Ty) × t'.D × Nat} {c : List Value} (h : fieldT t d f = some r) (hc : CD F w t d c) :
   ∃ pre mid post, c = pre ++ (mid ++ post) ∧ pre.length = r.2.2 ∧ CD F w r.1 r.2.1 mid := by
 unfold fieldT at h
 split at h <;> try (cases h; done)
 all_goals (injection h with h; subst h)
 · simp only [CD] at hc; exact ⟨[], c, [], by simp, rfl, hc⟩
 · simp only [CD] at hc; obtain ⟨c1, c2, rfl, h1, h2⟩ := hc; exact ⟨[], c1, c2, by simp, rfl, h1⟩
 · simp only [CD] at hc; obtain ⟨c1, c2, rfl, h1, h2⟩ := hc; exact ⟨c1, c2, [], by simp, h1.len, h2⟩
 · simp only [CD] at hc; obtain ⟨c1, c2, c3, rfl, h1, h2, h3⟩ := hc; exact ⟨[], c1, c2 ++ c3, by simp, rfl, h1⟩
 · simp only [CD] at hc; obtain ⟨c1, c2, c3, rfl, h1, h2, h3⟩ := hc; exact ⟨c1, c2, c3, by simp, h1.len, h2⟩
 · simp only [CD] at hc; obtain ⟨c1, c2, c3, rfl, h1, h2, h3⟩ := hc; exact ⟨c1 ++ c2, c3, [], by simp, by simp [h1.len, h2.len], h3⟩
 · simp only [CD] at hc; obtain ⟨c1, c2, c3, c4, rfl, h1, h2, h3, h4⟩ := hc; exact ⟨[], c1, c2 ++ (c3 ++ c4), by simp, rfl, h1⟩
 · simp only [CD] at hc; obtain ⟨c1, c2, c3, c4, rfl, h1, h2, h3, h4⟩ := hc; exact ⟨c1, c2, c3 ++ c4, by simp, h1.len, h2⟩
 · simp only [CD] at hc; obtain ⟨c1, c2, c3, c4, rfl, h1, h2, h3, h4⟩ := hc; exact ⟨c1 ++ c2, c3, c4, by simp, by simp [h1.len, h2.len], h3⟩
 · simp only [CD] at hc; obtain ⟨c1, c2, c3, c4, rfl, h1, h2, h3, h4⟩ := hc; exact ⟨c1 ++ (c2 ++ c3), c4, [], by simp, by simp [h1.len, h2.len, h3.len, Nat.add_assoc], h4⟩
def nz : Nat → Bool
 | 0 => false
 | _ => true
/-- The field's offset and type. -/
def fieldOf (X : Cx) (S : TypeId) (f : Nat) : Option (Nat × TI) :=
 match X.tt S with
 | some ti => (match ti.ds with
   | .st fs => (match fs[f]? with
     | some (off, ft) => (match X.tt ft with
       | some fti => some (off, fti)
       | none => none)
     | none => none)
   | _ => none)
 | none => none
theorem fieldOf_spec {X : Cx} (hX : X.Ok) {S : TypeId} {f : Nat} {off : Nat} {fti : TI} (h : fieldOf X S f = some (off, fti)) :
   ∃ fs fd, X.P.underlying S = some (.struct fs) ∧ fs[f]? = some fd ∧ fd.offset = off ∧ TI.Ok X.P fd.type fti := by
 unfold fieldOf at h
 split at h <;> try (cases h; done)
 rename_i ti hti
 split at h <;> try (cases h; done)
 rename_i fs hfs
 split at h <;> try (cases h; done)
 rename_i o ft hf
 split at h <;> try (cases h; done)
 rename_i fti' hft
 injection h with h; injection h with h1 h2; subst h1 h2
 obtain ⟨d, hd, hds⟩ := (hX.tt _ _ hti).under
 rw [hfs] at hds
 cases d <;> simp only [dsOf] at hds <;> try (cases hds; done)
 rename_i fields
 injection hds with hds
 rw [← hds] at hf
 simp only [List.getElem?_map, Option.map_eq_some_iff, Array.getElem?_toList] at hf
 obtain ⟨fd, hfd, he⟩ := hf
 injection he with e1 e2
 subst e1 e2
 exact ⟨fields, fd, hd, hfd, rfl, hX.tt _ _ hft⟩
def fieldA (X : Cx) (st : St) (S : TypeId) (x : AV) (f : Nat) : Option (AV × Prop) :=
 match fieldOf X S f with
 | some (off, fti) =>
   (match nz fti.size with
   | true =>
     (match x with
     | .ptr o ver p => (match content st o ver with
       | some c => (match getAt c p with
         | some (.agg l) => (match l[f]? with
           | some _ => (match Nat.beq off (Sh.szs ((AV.shs l).take f)) with
             | true => some (.ptr o ver (p ++ [f]), True)
             | false => none)
           | none => none)
         | _ => none)
       | none => none)
     | .pt t d => (match fieldT t d f with
       | some r => (match Nat.beq off r.2.2 with
         | true => some (.pt r.1 r.2.1, True)
         | false => none)
       | none => none)
     | .pv (.agg l) => (match l[f]? with
       | some s => (match Nat.beq off (Sh.szs ((AV.shs l).take f)) with
         | true => some (.pv s, True)
         | false => none)
       | none => none)
     | _ => none)
   | false => none)
 | none => none
/-- A field of a value. -/
def fieldV (X : Cx) (S : TypeId) (x : AV) (f : Nat) : Option (AV × Prop) :=
 match fieldOf X S f with
 | some (off, fti) =>
   (match x with
   | .agg l => (match l[f]? with
     | some s => (match Nat.beq off (Sh.szs ((AV.shs l).take f)) with
       | true => (match fits fti s with
         | true => some (s, True)
         | false => none)
       | false => none)
     | none => none)
   | _ => none)
 | none => none
def idxPre (i : Int) (n : Nat) : Prop := 0 ≤ i ∧ i < n
/-- The element's type of an array or a slice. -/
def elemOf (X : Cx) (T : TypeId) : Option (Option Nat × TI) :=
 match X.tt T with
 | some ti => (match ti.ds with
   | .ar n e => (match X.tt e with
     | some eti => some (some n, eti)
     | none => none)
   | .sl e => (match X.tt e with
     | some eti => some (none, eti)
     | none => none)
   | _ => none)
 | none => none
theorem elemOf_spec {X : Cx} (hX : X.Ok) {T : TypeId} {n : Option Nat} {eti : TI} (h : elemOf X T = some (n, eti)) :
   ∃ e, X.P.underlying T = some (match n with | some n => .array n e | none => .slice e) ∧ TI.Ok X.P e eti := by
 unfold elemOf at h
 split at h <;> try (cases h; done)
 rename_i ti hti
 obtain ⟨d, hd, hds⟩ := (hX.tt _ _ hti).under
 split at h <;> try (cases h; done)
 · rename_i m e hfs
   split at h <;> try (cases h; done)
   rename_i eti' hft
   injection h with h; injection h with h1 h2; subst h1 h2
   rw [hfs] at hds
   cases d <;> simp only [dsOf] at hds <;> try (cases hds; done)
   injection hds with e1 e2; subst e1 e2
   exact ⟨_, hd, hX.tt _ _ hft⟩
 · rename_i e hfs
   split at h <;> try (cases h; done)
   rename_i eti' hft
   injection h with h; injection h with h1 h2; subst h1 h2
   rw [hfs] at hds
   cases d <;> simp only [dsOf] at hds <;> try (cases hds; done)
   injection hds with e1; subst e1
   exact ⟨_, hd, hX.tt _ _ hft⟩
/-- The address of an element. -/
def indexA (X : Cx) (st : St) (T : TypeId) (x : AV) (i : Int) : Option (AV × Prop) :=
 match elemOf X T with
 | some (some n, eti) =>
   (match x with
   | .ptr o ver p => (match content st o ver with
     | some c => (match getAt c p with
       | some (.ar e m _) => (match Nat.beq m n, Nat.beq eti.size e.sz with
         | true, true => some (.ptr o ver (p ++ [i.toNat]), idxPre i n)
         | _, _ => none)
       | some (.agg l) => (match l[i.toNat]? with
         | some _ => (match Nat.beq l.length n, Nat.beq (Sh.szs ((AV.shs l).take i.toNat)) (i.toNat * eti.size) with
           | true, true => some (.ptr o ver (p ++ [i.toNat]), idxPre i n)
           | _, _ => none)
         | none => none)
       | _ => none)
     | none => none)
   | .pt (.ar m e) d => (match Nat.beq m n, Nat.beq eti.size e.sz with
     | true, true => some (.pt e ((d : List e.D).getD i.toNat e.dflt), idxPre i n)
     | _, _ => none)
   | .pv (.ar e m d) => (match Nat.beq m n, Nat.beq eti.size e.sz with
     | true, true => some (.pt e ((d : List e.D).getD i.toNat e.dflt), idxPre i n)
     | _, _ => none)
   | .pt (.a2 e) d => (match Nat.beq 2 n, Nat.beq eti.size e.sz with
     | true, true => some (.pt e (([d.1, d.2] : List e.D).getD i.toNat e.dflt), idxPre i n)
     | _, _ => none)
   | _ => none)
 | some (none, eti) =>
   (match x with
   | .own o ver => (match content st o ver with
     | some (.ar e m _) => (match Nat.beq eti.size e.sz with
       | true => some (.ptr o ver [i.toNat], idxPre i m)
       | false => none)
     | _ => none)
   | .sl e xs => (match Nat.beq eti.size e.sz with
     | true => some (.pt e (xs.getD i.toNat e.dflt), idxPre i xs.length)
     | false => none)
   | .sub o ver p lo n => (match content st o ver with
     | some c => (match getAt c p with
       | some (.ar e _ _) => (match Nat.beq eti.size e.sz with
         | true => some (.ptr o ver (p ++ [lo + i.toNat]), idxPre i n)
         | false => none)
       | some (.agg l) => (match l[lo + i.toNat]? with
         | some s => (match Nat.beq eti.size s.sh.sz with
           | true => some (.ptr o ver (p ++ [lo + i.toNat]), idxPre i n)
           | false => none)
         | none => none)
       | _ => none)
     | none => none)
   | _ => none)
 | none => none
/-- An element of a value. -/
def indexV (X : Cx) (T : TypeId) (x : AV) (i : Int) : Option (AV × Prop) :=
 match x with
 | .ar e m xs => (match elemOf X T with
   | some (some n, eti) => (match Nat.beq m n, fits eti (ofD e (xs.getD i.toNat e.dflt)) with
     | true, true => some (ofD e (xs.getD i.toNat e.dflt), idxPre i n)
     | _, _ => none)
   | _ => none)
 | .agg l => (match elemOf X T, l[i.toNat]? with
   | some (some n, eti), some s => (match Nat.beq l.length n, Nat.beq eti.size s.sh.sz, eti.ds.agg == s.isAgg, Nat.beq (Sh.szs ((AV.shs l).take i.toNat)) (i.toNat * eti.size) with
     | true, true, true, true => some (s, idxPre i n)
     | _, _, _, _ => none)
   | _, _ => none)
 | .str s => (match X.tt T with
   | some ti => (match ti.ds with
     | .str => some (.int .u8 ((s.data.toList.getD i.toNat 0).toNat : Int), idxPre i s.size)
     | _ => none)
   | none => none)
 | _ => none
section
variable {X : Cx} {G : En} {E : Env} {F : Nat → Prop} {st : St} {a : Act} {w : World}
theorem nz_spec {n : Nat} (h : nz n = true) : n ≠ 0 := by cases n <;> simp_all [nz]
theorem run_fieldPlace {T : TypeId} {fti : TI} (ok : TI.Ok X.P T fti) (hz : fti.size ≠ 0) (ad : Addr) (f : Field) (hf : f.type = T) : (fieldPlace ad f).run X.P w = .ok (ad.add f.offset) w := by
 subst hf
 simp only [fieldPlace, Sem.run_bind, ok.run_sizeOf, Result.andThen_ok, hz, if_false, Sem.run_pure]
theorem run_fieldA (hX : X.Ok) (h : Rel G E F st a w) {S : TypeId} {x : AV} {f : Nat} {u : Value} {v : AV} {p : Prop} (hx : TR E st.inf F w x u) (hl : fieldA X st S x f = some (v, p)) :
   ∃ r, (Instr.fieldAt S u f).run X.P w = .ok r w ∧ TR E st.inf F w v r := by
 unfold fieldA at hl
 split at hl <;> try (cases hl; done)
 rename_i off fti hfo
 obtain ⟨fs, fd, hu, hfd, hoff, ok⟩ := fieldOf_spec hX hfo
 split at hl <;> try (cases hl; done)
 rename_i hz
 have hz := nz_spec hz
 split at hl
 · rename_i o ver p'
   split at hl <;> try (cases hl; done)
   rename_i c hc
   split at hl <;> try (cases hl; done)
   rename_i l hs
   split at hl <;> try (cases hl; done)
   rename_i s hls
   split at hl <;> try (cases hl; done)
   rename_i hb
   injection hl with hl; injection hl with h1 h2; subst h1
   have hb := Nat.eq_of_beq_eq_true hb
   obtain ⟨ob, ho, hi, hI⟩ := content_spec hc
   obtain ⟨t, off', hp, rfl⟩ := one_ptr hx hI
   obtain ⟨cs, T', c0, rest, g1, g2, g3⟩ := h.content hc
   obtain ⟨rfl, _⟩ := CR.path hs hp g3
   refine ⟨.pointer (some ⟨E.β o, off' + off, none⟩), ?_, ?_⟩
   · simp only [Instr.fieldAt, Instr.sureAddr, Sem.run_bind, run_underlying hu, Result.andThen_ok, hfd, Sem.run_pure, run_fieldPlace ok hz _ fd rfl, hoff, Addr.add_lit]
   · refine ⟨?_, by simp [Shaped, AV.isAgg, Value.cells]⟩
     simp only [CR, Value.cells]
     refine ⟨by simp, by simp [Value.oneCell'], fun s' hs' => ?_⟩
     rw [hI] at hs'
     injection hs' with hs'; injection hs' with _ hs'; subst hs'
     rw [hb]
     exact ⟨_, _, PathTo.snoc_node hp (by simp [AV.sh]) (shs_get hls), rfl⟩
 · rename_i t d
   split at hl <;> try (cases hl; done)
   rename_i r hr
   split at hl <;> try (cases hl; done)
   rename_i hb
   injection hl with hl; injection hl with h1 h2; subst h1
   have hb := Nat.eq_of_beq_eq_true hb
   obtain ⟨ad, c, rfl, hF, hc, hat⟩ := one_pt hx
   obtain ⟨pre, mid, post, e1, e2, e3⟩ := fieldT_spec hr hc
   refine ⟨.pointer (some (ad.add off)), ?_, ?_⟩
   · simp only [Instr.fieldAt, Instr.sureAddr, Sem.run_bind, run_underlying hu, Result.andThen_ok, hfd, Sem.run_pure, run_fieldPlace ok hz _ fd rfl, hoff]
   · refine ⟨?_, by simp [Shaped, AV.isAgg, Value.cells]⟩
     simp only [CR, Value.cells]
     refine ⟨ad.add off, mid, by simp, by rw [block_add]; exact hF, e3, ?_⟩
     rw [e1] at hat
     rw [hb, ← e2]
     exact hat.sub
 · rename_i l
   split at hl <;> try (cases hl; done)
   rename_i s hls
   split at hl <;> try (cases hl; done)
   rename_i hb
   injection hl with hl; injection hl with h1 h2; subst h1
   have hb := Nat.eq_of_beq_eq_true hb
   obtain ⟨ad, c, rfl, hF, hc, hat⟩ := one_pv hx
   simp only [CR] at hc
   obtain ⟨pre, mid, post, e1, e2, e3, _⟩ := hc.split hls
   refine ⟨.pointer (some (ad.add off)), ?_, ?_⟩
   · simp only [Instr.fieldAt, Instr.sureAddr, Sem.run_bind, run_underlying hu, Result.andThen_ok, hfd, Sem.run_pure, run_fieldPlace ok hz _ fd rfl, hoff]
   · refine ⟨?_, by simp [Shaped, AV.isAgg, Value.cells]⟩
     simp only [CR, Value.cells]
     refine ⟨ad.add off, mid, by simp, by rw [block_add]; exact hF, e3, ?_⟩
     rw [e1] at hat
     rw [hb, ← e2]
     exact hat.sub
 · cases hl
theorem run_part {T : TypeId} {ti : TI} (ok : TI.Ok X.P T ti) {cs : Array Value} {pre mid post : List Value} (hs : cs.toList = pre ++ (mid ++ post)) (hm : mid.length = ti.size) (h1 : ti.ds.agg = false → ti.size = 1) :
   (part T cs pre.length).run X.P w = .ok (valOf ti.ds.agg mid) w := by
 simp only [part, Sem.run_bind, ok.run_isAgg, Result.andThen_ok]
 cases ha : ti.ds.agg with
 | true =>
   simp only [if_true, Sem.run_bind, ok.run_sizeOf, Result.andThen_ok, Sem.run_pure, valOf, ← hm]
   congr 2
   apply Array.ext'
   rw [Array.toList_extract, hs]
   simp
 | false =>
   have h2 := h1 ha
   rw [h2] at hm
   match mid, hm with
   | [v], _ =>
     have : cs[pre.length]? = some v := by rw [← Array.getElem?_toList, hs]; simp
     simp [valOf, this]
theorem agg_val {I : Nat → Option Inf} {x : AV} {u : Value} (hx : TR E I F w x u) (ha : x.isAgg = true) : ∃ cs, u = .agg cs ∧ CR E I F w x cs.toList := by
 cases x <;> simp [AV.isAgg] at ha
 all_goals
   obtain ⟨h1, h2⟩ := hx
   simp only [Shaped, AV.isAgg, if_true] at h2
   obtain ⟨cs, rfl⟩ := h2
   exact ⟨cs, rfl, h1⟩
theorem run_fieldV (hX : X.Ok) {I : Nat → Option Inf} {S : TypeId} {x : AV} {f : Nat} {u : Value} {v : AV} {p : Prop} (hx : TR E I F w x u) (hl : fieldV X S x f = some (v, p)) :
   ∃ r, (Instr.field S u f).run X.P w = .ok r w ∧ TR E I F w v r := by
 unfold fieldV at hl
 split at hl <;> try (cases hl; done)
 rename_i off fti hfo
 obtain ⟨fs, fd, hu, hfd, hoff, ok⟩ := fieldOf_spec hX hfo
 split at hl <;> try (cases hl; done)
 rename_i l
 split at hl <;> try (cases hl; done)
 rename_i s hls
 split at hl <;> try (cases hl; done)
 rename_i hb
 split at hl <;> try (cases hl; done)
 rename_i hf
 injection hl with hl; injection hl with h1 h2; subst h1
 have hb := Nat.eq_of_beq_eq_true hb
 obtain ⟨f1, f2⟩ := fits_spec hf
 obtain ⟨cs, rfl, hc⟩ := agg_val hx rfl
 simp only [CR] at hc
 obtain ⟨pre, mid, post, e1, e2, e3, _⟩ := hc.split hls
 have := run_part (w := w) ok e1 (by rw [e3.len, f1]) (fun ha => by rw [f1]; exact size_one (by rw [← f2]; exact ha))
 refine ⟨valOf fti.ds.agg mid, ?_, by rw [f2]; exact TR.of_CR e3⟩
 simp only [Instr.field, Sem.run_bind, run_underlying hu, Result.andThen_ok, hfd, asAgg, Sem.run_pure, hoff, hb, ← e2, this]
theorem one_own {I : Nat → Option Inf} {o ver : Nat} {u : Value} (h : TR E I F w (.own o ver) u) {n : Nat} {e : Sh} (hI : I o = some ⟨ver, .arr n e⟩) : u = .slice (some ⟨E.β o, 0, none⟩) n (E.cap o) := by
 obtain ⟨h1, h2⟩ := h
 simp only [CR] at h1
 have h4 := h1.2.2 n e hI
 simp only [Shaped, AV.isAgg, Bool.false_eq_true, if_false] at h2
 rw [h2] at h4
 simpa using h4
theorem one_sl {I : Nat → Option Inf} {e : Ty} {xs : List e.D} {u : Value} (h : TR E I F w (.sl e xs) u) : ∃ A c, u = .slice A xs.length c ∧ (xs.length ≤ c ∧ xs.length ≤ 140737488355328) ∧
     ∀ i (h : i < xs.length), ∃ ad ecs, A = some ad ∧ F ad.block ∧ CD F w e xs[i] ecs ∧ CellsAt w (ad.add (i * e.sz)) ecs := by
 obtain ⟨h1, h2⟩ := h
 simp only [CR, CD] at h1
 obtain ⟨A, c, h3, h4, h5⟩ := h1
 simp only [Shaped, AV.isAgg, Bool.false_eq_true, if_false] at h2
 rw [h2] at h3
 simp at h3
 exact ⟨A, c, h3, h4, h5⟩
theorem PathA.arr {I : Nat → Option Inf} {c : AV} {p : List Nat} {N off : Nat} {e : Sh} {e' : Ty} {n' : Nat} {xs : List e'.D} {cs : List Value} (h : PathA c.sh p N e off) (hs : getAt c p = some (.ar e' n' xs)) (hc : CR E I F w c cs) : PathTo c.sh p (.arr N e) off := by
 rcases h with h | h
 · exact h
 · obtain ⟨h1, _⟩ := CR.path hs h hc
   simp only [AV.sh] at h1
   cases h1
theorem one_sub {I : Nat → Option Inf} {o ver : Nat} {p : List Nat} {lo n : Nat} {u : Value} (h : TR E I F w (.sub o ver p lo n) u) {s : Sh} (hI : I o = some ⟨ver, s⟩) :
   ∃ off N e, PathA s p N e off ∧ lo + n ≤ N ∧ ∃ q c, u = .slice (some ⟨E.β o, q, none⟩) n c ∧ (0 < n → q = off + lo * e.sz) ∧ n ≤ c := by
 obtain ⟨h1, h2⟩ := h
 simp only [CR] at h1
 obtain ⟨off, N, e, h3, h4, q, c, h5, h6⟩ := h1.2.2 s hI
 simp only [Shaped, AV.isAgg, Bool.false_eq_true, if_false] at h2
 rw [h2] at h5
 simp at h5
 exact ⟨off, N, e, h3, h4, q, c, h5, h6⟩
theorem TR.ptr {I : Nat → Option Inf} {o ver : Nat} {p : List Nat} {s t : Sh} {off : Nat} (hI : I o = some ⟨ver, s⟩) (hp : PathTo s p t off) : TR E I F w (.ptr o ver p) (.pointer (some ⟨E.β o, off, none⟩)) := by
 refine ⟨?_, by simp [Shaped, AV.isAgg, Value.cells]⟩
 simp only [CR, Value.cells]
 refine ⟨by simp, by simp [Value.oneCell'], fun s' hs' => ?_⟩
 rw [hI] at hs'
 injection hs' with hs'; injection hs' with _ hs'; subst hs'
 exact ⟨t, off, hp, rfl⟩
theorem TR.pt {I : Nat → Option Inf} {t : Ty} {d : t.D} {ad : Addr} {c : List Value} (hF : F ad.block) (hc : CD F w t d c) (hat : CellsAt w ad c) : TR E I F w (.pt t d) (.pointer (some ad)) := by
 refine ⟨?_, by simp [Shaped, AV.isAgg, Value.cells]⟩
 simp only [CR, Value.cells]
 exact ⟨ad, c, by simp, hF, hc, hat⟩
theorem run_indexAt_array {T e : TypeId} {n : Nat} {eti : TI} (hu : X.P.underlying T = some (.array n e)) (ok : TI.Ok X.P e eti) {ad : Addr} {k : IntKind} {i : Int} (hp : idxPre i n) :
   (Instr.indexAt T (.pointer (some ad)) (.int k i)).run X.P w = .ok (.pointer (some (ad.add (i.toNat * eti.size)))) w := by
 simp only [Instr.indexAt, asIntOf, Sem.run_bind, Sem.run_pure, Result.andThen_ok, run_underlying hu, Instr.sureAddr]
 have h1 : (0 ≤ i ∧ i < (n : Int)) := hp
 simp only [h1, and_self, if_true, Sem.run_bind, ok.run_sizeOf, Result.andThen_ok, Sem.run_pure]
theorem run_indexAt_slice {T e : TypeId} {n c : Nat} {eti : TI} (hu : X.P.underlying T = some (.slice e)) (ok : TI.Ok X.P e eti) {ad : Addr} {k : IntKind} {i : Int} (hp : idxPre i n) :
   (Instr.indexAt T (.slice (some ad) n c) (.int k i)).run X.P w = .ok (.pointer (some (ad.add (i.toNat * eti.size)))) w := by
 simp only [Instr.indexAt, asIntOf, Sem.run_bind, Sem.run_pure, Result.andThen_ok, run_underlying hu, Instr.sureAddr]
 have h1 : (0 ≤ i ∧ i < (n : Int)) := hp
 simp only [h1, and_self, if_true, Sem.run_bind, ok.run_sizeOf, Result.andThen_ok, Sem.run_pure]
theorem run_indexA (hX : X.Ok) (h : Rel G E F st a w) {T : TypeId} {x : AV} {k : IntKind} {i : Int} {u : Value} {v : AV} {p : Prop} (hx : TR E st.inf F w x u) (hl : indexA X st T x i = some (v, p)) (hp : p) :
   ∃ r, (Instr.indexAt T u (.int k i)).run X.P w = .ok r w ∧ TR E st.inf F w v r := by
 unfold indexA at hl
 split at hl
 · rename_i n eti heo
   obtain ⟨e, hu, ok⟩ := elemOf_spec hX heo
   split at hl
   · rename_i o ver p'
     split at hl <;> try (cases hl; done)
     rename_i c hc
     split at hl <;> try (cases hl; done)
     · rename_i et m xs hs
       split at hl <;> try (cases hl; done)
       rename_i hb1 hb2
       injection hl with hl; injection hl with h1 h2; subst h1 h2
       have hb1 := Nat.eq_of_beq_eq_true hb1
       have hb2 := Nat.eq_of_beq_eq_true hb2
       subst hb1
       obtain ⟨ob, ho, hi, hI⟩ := content_spec hc
       obtain ⟨t, off', hpt, rfl⟩ := one_ptr hx hI
       obtain ⟨cs, T', c0, rest, g1, g2, g3⟩ := h.content hc
       obtain ⟨rfl, _⟩ := CR.path hs hpt g3
       refine ⟨_, run_indexAt_array hu ok hp, ?_⟩
       rw [Addr.add_lit, hb2]
       have hlt : i.toNat < m := by have := hp.1; have := hp.2; omega
       exact TR.ptr hI (PathTo.snoc_arr hpt (by simp [AV.sh]) hlt)
     · rename_i l hs
       split at hl <;> try (cases hl; done)
       rename_i s hls
       split at hl <;> try (cases hl; done)
       rename_i hb1 hb2
       injection hl with hl; injection hl with h1 h2; subst h1 h2
       have hb2 := Nat.eq_of_beq_eq_true hb2
       obtain ⟨ob, ho, hi, hI⟩ := content_spec hc
       obtain ⟨t, off', hpt, rfl⟩ := one_ptr hx hI
       obtain ⟨cs, T', c0, rest, g1, g2, g3⟩ := h.content hc
       obtain ⟨rfl, _⟩ := CR.path hs hpt g3
       refine ⟨_, run_indexAt_array hu ok hp, ?_⟩
       rw [Addr.add_lit, ← hb2]
       exact TR.ptr hI (PathTo.snoc_node hpt (by simp [AV.sh]) (shs_get hls))
   · rename_i m et d
     split at hl <;> try (cases hl; done)
     rename_i hb1 hb2
     injection hl with hl; injection hl with h1 h2; subst h1 h2
     have hb1 := Nat.eq_of_beq_eq_true hb1
     have hb2 := Nat.eq_of_beq_eq_true hb2
     subst hb1
     obtain ⟨ad, c, rfl, hF, hc, hat⟩ := one_pt hx
     have hlt : i.toNat < m := by have := hp.1; have := hp.2; omega
     obtain ⟨pre, mid, post, e1, e2, e3, _⟩ := hc.ar_split hlt
     refine ⟨_, run_indexAt_array hu ok hp, ?_⟩
     rw [hb2, ← e2]
     rw [e1] at hat
     exact TR.pt (by rw [block_add]; exact hF) e3 hat.sub
   · rename_i et m d
     split at hl <;> try (cases hl; done)
     rename_i hb1 hb2
     injection hl with hl; injection hl with h1 h2; subst h1 h2
     have hb1 := Nat.eq_of_beq_eq_true hb1
     have hb2 := Nat.eq_of_beq_eq_true hb2
     subst hb1
     obtain ⟨ad, c, rfl, hF, hc, hat⟩ := one_pv hx
     simp only [CR] at hc
     have hlt : i.toNat < m := by have := hp.1; have := hp.2; omega
     obtain ⟨pre, mid, post, e1, e2, e3, _⟩ := hc.ar_split hlt
     refine ⟨_, run_indexAt_array hu ok hp, ?_⟩
     rw [hb2, ← e2]
     rw [e1] at hat
     exact TR.pt (by rw [block_add]; exact hF) e3 hat.sub
   · rename_i et d
     split at hl <;> try (cases hl; done)
     rename_i hb1 hb2
     injection hl with hl; injection hl with h1 h2; subst h1 h2
     have hb1 := Nat.eq_of_beq_eq_true hb1
     have hb2 := Nat.eq_of_beq_eq_true hb2
     subst hb1
     obtain ⟨ad, c, rfl, hF, hc, hat⟩ := one_pt hx
     have hc' : CD F w (.ar 2 et) [d.1, d.2] c := by
       have := CR.ofD (E := E) (I := st.inf) hc
       simpa only [ofD, CR] using this
     have hlt : i.toNat < 2 := by have := hp.1; have := hp.2; omega
     obtain ⟨pre, mid, post, e1, e2, e3, _⟩ := hc'.ar_split hlt
     refine ⟨_, run_indexAt_array hu ok hp, ?_⟩
     rw [hb2, ← e2]
     rw [e1] at hat
     exact TR.pt (by rw [block_add]; exact hF) e3 hat.sub
   · cases hl
 · rename_i eti heo
   obtain ⟨e, hu, ok⟩ := elemOf_spec hX heo
   split at hl
   · rename_i o ver
     split at hl <;> try (cases hl; done)
     rename_i et m xs hc
     split at hl <;> try (cases hl; done)
     rename_i hb2
     injection hl with hl; injection hl with h1 h2; subst h1 h2
     have hb2 := Nat.eq_of_beq_eq_true hb2
     obtain ⟨ob, ho, hi, hI⟩ := content_spec hc
     have := one_own hx hI
     subst this
     refine ⟨_, run_indexAt_slice hu ok hp, ?_⟩
     have hlt : i.toNat < m := by have := hp.1; have := hp.2; omega
     have hpt := PathTo.snoc_arr (i := i.toNat) (PathTo.here (AV.ar et m xs).sh) rfl hlt
     rw [Addr.add_lit, hb2]
     exact TR.ptr hI hpt
   · rename_i et xs
     split at hl <;> try (cases hl; done)
     rename_i hb2
     injection hl with hl; injection hl with h1 h2; subst h1 h2
     have hb2 := Nat.eq_of_beq_eq_true hb2
     obtain ⟨A, c, rfl, hm, hel⟩ := one_sl hx
     have hlt : i.toNat < xs.length := by have := hp.1; have := hp.2; omega
     obtain ⟨ad, ecs, rfl, hF, hc, hat⟩ := hel _ hlt
     refine ⟨_, run_indexAt_slice hu ok hp, ?_⟩
     rw [hb2]
     have hg : xs.getD i.toNat et.dflt = xs[i.toNat] := by simp [List.getD_eq_getElem?_getD, hlt]
     rw [hg]
     exact TR.pt (by rw [block_add]; exact hF) hc hat
   · rename_i o ver p' lo n
     split at hl <;> try (cases hl; done)
     rename_i c hc
     split at hl <;> try (cases hl; done)
     · rename_i et m xs hs
       split at hl <;> try (cases hl; done)
       rename_i hb2
       injection hl with hl; injection hl with h1 h2; subst h1 h2
       have hb2 := Nat.eq_of_beq_eq_true hb2
       obtain ⟨ob, ho, hi, hI⟩ := content_spec hc
       obtain ⟨off', N, eS, hpa, hlo, q, cc, rfl, hq, hn⟩ := one_sub hx hI
       obtain ⟨cs, T', c0, rest, g1, g2, g3⟩ := h.content hc
       have hpt := hpa.arr hs g3
       obtain ⟨hsh, _⟩ := CR.path hs hpt g3
       simp only [AV.sh] at hsh
       injection hsh with q1 q2
       subst q1 q2
       refine ⟨_, run_indexAt_slice hu ok hp, ?_⟩
       have hlt : i.toNat < n := by have := hp.1; have := hp.2; omega
       rw [hq (by omega), Addr.add_lit, hb2, Nat.add_assoc]
       have hpt' := PathTo.snoc_arr (i := lo + i.toNat) hpt rfl (by omega)
       rw [Nat.add_mul] at hpt'
       exact TR.ptr hI hpt'
     · rename_i l hs
       split at hl <;> try (cases hl; done)
       rename_i z hz
       split at hl <;> try (cases hl; done)
       rename_i hb2
       injection hl with hl; injection hl with h1 h2; subst h1 h2
       have hb2 := Nat.eq_of_beq_eq_true hb2
       obtain ⟨ob, ho, hi, hI⟩ := content_spec hc
       obtain ⟨off', N, eS, hpa, hlo, q, cc, rfl, hq, hn⟩ := one_sub hx hI
       obtain ⟨cs, T', c0, rest, g1, g2, g3⟩ := h.content hc
       have hlt : i.toNat < n := by have := hp.1; have := hp.2; omega
       have hpt : PathTo c.sh p' (.node (List.replicate N eS)) off' := by
         rcases hpa with h | h
         · obtain ⟨h1, _⟩ := CR.path hs h g3
           simp only [AV.sh] at h1
           cases h1
         · exact h
       obtain ⟨hsh, _⟩ := CR.path hs hpt g3
       simp only [AV.sh] at hsh
       injection hsh with hsh
       have hze : z.sh = eS := by
         have : (AV.shs l)[lo + i.toNat]? = some z.sh := shs_get hz
         rw [← hsh, List.getElem?_replicate, if_pos (by omega)] at this
         injection this with this
         exact this.symm
       refine ⟨_, run_indexAt_slice hu ok hp, ?_⟩
       rw [hq (by omega), Addr.add_lit, hb2, hze, Nat.add_assoc]
       have hpt' := PathTo.snoc_nodes (i := lo + i.toNat) hpt rfl (by omega)
       rw [Nat.add_mul] at hpt'
       exact TR.ptr hI hpt'
   · cases hl
 · cases hl
theorem run_indexV (hX : X.Ok) {I : Nat → Option Inf} {T : TypeId} {x : AV} {k : IntKind} {i : Int} {u : Value} {v : AV} {p : Prop} (hx : TR E I F w x u) (hl : indexV X T x i = some (v, p)) (hp : p) :
   ∃ r, (Instr.index T u (.int k i)).run X.P w = .ok r w ∧ TR E I F w v r := by
 unfold indexV at hl
 split at hl
 · rename_i et m xs
   split at hl <;> try (cases hl; done)
   rename_i n eti heo
   split at hl <;> try (cases hl; done)
   rename_i hb1 hf
   injection hl with hl; injection hl with h1 h2; subst h1 h2
   have hb1 := Nat.eq_of_beq_eq_true hb1
   subst hb1
   obtain ⟨f1, f2⟩ := fits_spec hf
   obtain ⟨e, hu, ok⟩ := elemOf_spec hX heo
   obtain ⟨cs, rfl, hc⟩ := agg_val hx rfl
   simp only [CR] at hc
   have hlt : i.toNat < m := by have := hp.1; have := hp.2; omega
   obtain ⟨pre, mid, post, e1, e2, e3, _⟩ := hc.ar_split hlt
   have hcr : CR E I F w (ofD et (xs.getD i.toNat et.dflt)) mid := CR.ofD e3
   have := run_part (w := w) ok e1 (by rw [hcr.len, f1]) (fun ha => by rw [f1]; exact size_one (by rw [← f2]; exact ha))
   have h1 : (0 ≤ i ∧ i < (m : Int)) := hp
   refine ⟨valOf eti.ds.agg mid, ?_, by rw [f2]; exact TR.of_CR hcr⟩
   rw [e2] at this
   have hsz : eti.size = et.sz := by rw [f1, sh_ofD]; rfl
   simp only [Instr.index, asIntOf, Sem.run_bind, Sem.run_pure, Result.andThen_ok, run_underlying hu, h1, and_self, if_true, ok.run_sizeOf, hsz, this]
 · rename_i l
   split at hl <;> try (cases hl; done)
   rename_i n eti s heo hls
   split at hl <;> try (cases hl; done)
   rename_i hb1 hb2 hb3 hb4
   injection hl with hl; injection hl with h1 h2; subst h1 h2
   have hb1 := Nat.eq_of_beq_eq_true hb1
   have hb2 := Nat.eq_of_beq_eq_true hb2
   have hb3 := eq_of_beq hb3
   have hb4 := Nat.eq_of_beq_eq_true hb4
   obtain ⟨e, hu, ok⟩ := elemOf_spec hX heo
   obtain ⟨cs, rfl, hc⟩ := agg_val hx rfl
   obtain ⟨_, pre, mid, post, e1, e2, e3, _⟩ := CR.path (p := [i.toNat]) (c := .agg l) (s := s) (t := s.sh) (off := Sh.szs ((AV.shs l).take i.toNat) + 0) (by simp [getAt, hls]) (PathTo.node (shs_get hls) (PathTo.here _)) hc
   have := run_part (w := w) ok e1 (by rw [e3.len, hb2]) (fun ha => by rw [hb2]; exact size_one (by rw [← hb3]; exact ha))
   have h1 : (0 ≤ i ∧ i < (n : Int)) := hp
   refine ⟨valOf eti.ds.agg mid, ?_, by rw [hb3]; exact TR.of_CR e3⟩
   rw [e2, Nat.add_zero, hb4] at this
   simp only [Instr.index, asIntOf, Sem.run_bind, Sem.run_pure, Result.andThen_ok, run_underlying hu, h1, and_self, if_true, ok.run_sizeOf, this]
 · rename_i s
   split at hl <;> try (cases hl; done)
   rename_i ti hti
   split at hl <;> try (cases hl; done)
   rename_i hds
   injection hl with hl; injection hl with h1 h2; subst h1 h2
   obtain ⟨d, hd, hdd⟩ := (hX.tt _ _ hti).under
   rw [hds] at hdd
   cases d <;> simp only [dsOf] at hdd <;> try (cases hdd; done)
   have := str_val hx
   subst this
   have h0 : 0 ≤ i := hp.1
   have hlt : i.toNat < s.size := by have := hp.1; have := hp.2; omega
   refine ⟨_, ?_, TR.int _ _⟩
   have hlen : s.data.toList.length = s.size := rfl
   have hg : s[i.toNat]? = some (s[i.toNat]'hlt) := by simp [hlt]
   have hge : s.data.toList.getD i.toNat 0 = s[i.toNat]'hlt := by
     have h2 : i.toNat < s.data.toList.length := by rw [hlen]; exact hlt
     rw [List.getD_eq_getElem?_getD, List.getElem?_eq_getElem h2]
     simp
     rfl
   simp only [Instr.index, asIntOf, Sem.run_bind, Sem.run_pure, Result.andThen_ok, run_underlying hd, h0, if_true, hg, hge]
 · cases hl
end
end Go.Am

/- The abstract machine, part 7: cuts of slices and strings; small operations; structs and arrays built. -/
namespace Go.Am
open Go
def slPre (len cap : Nat) (lo hi mx : Option Int) : Prop :=
 match mx with
 | none => (match hi with
   | none => (match lo with
     | none => True
     | some l => 0 ≤ l ∧ l ≤ len)
   | some h => (match lo with
     | none => 0 ≤ h ∧ h ≤ cap
     | some l => 0 ≤ l ∧ l ≤ h ∧ h ≤ cap))
 | some m => (match hi with
   | none => False
   | some h => (match lo with
     | none => 0 ≤ h ∧ h ≤ m ∧ m ≤ cap
     | some l => 0 ≤ l ∧ l ≤ h ∧ h ≤ m ∧ m ≤ cap))
def bLo : Option Int → Nat
 | none => 0
 | some l => l.toNat
def bHi (n : Nat) : Option Int → Nat
 | none => n
 | some h => h.toNat
theorem slPre_cap {len cap cap' : Nat} {lo hi mx : Option Int} (h : slPre len cap lo hi mx) (hc : cap ≤ cap') : slPre len cap' lo hi mx := by
 unfold slPre at *
 cases mx <;> cases hi <;> cases lo <;> simp_all <;> omega
theorem slPre_le {len cap : Nat} {lo hi mx : Option Int} (h : slPre len cap lo hi mx) (hlc : len ≤ cap) : bLo lo ≤ bHi len hi ∧ bHi len hi ≤ bHi cap mx ∧ bHi cap mx ≤ cap := by
 unfold slPre at h
 cases mx <;> cases hi <;> cases lo <;> simp_all [bLo, bHi] <;> omega
def intV (o : Option (IntKind × Int)) : Option Value := o.map fun p => .int p.1 p.2
theorem run_sliceBounds {P : Program} {w : World} (isS : Bool) {len cap : Nat} {lo hi mx : Option (IntKind × Int)} (h : slPre len cap (lo.map (·.2)) (hi.map (·.2)) (mx.map (·.2))) :
   (Instr.sliceBounds isS len cap (intV lo) (intV hi) (intV mx)).run P w = .ok (bLo (lo.map (·.2)), bHi len (hi.map (·.2)), bHi cap (mx.map (·.2))) w := by
 cases mx with
 | none =>
   cases hi with
   | none =>
     cases lo with
     | none => simp [Instr.sliceBounds, intV, bLo, bHi]
     | some l =>
       obtain ⟨kl, l⟩ := l
       simp only [slPre, Option.map] at h
       simp [Instr.sliceBounds, intV, bLo, bHi, run_sliceBound w kl l _ _ h.1 h.2]
   | some hh =>
     obtain ⟨kh, hh⟩ := hh
     cases lo with
     | none =>
       simp only [slPre, Option.map] at h
       simp [Instr.sliceBounds, intV, bLo, bHi, run_sliceBound w kh hh _ _ h.1 h.2]
     | some l =>
       obtain ⟨kl, l⟩ := l
       simp only [slPre, Option.map] at h
       have h1 : l ≤ ((hh.toNat : Nat) : Int) := by omega
       simp [Instr.sliceBounds, intV, bLo, bHi, run_sliceBound w kh hh cap _ (by omega) h.2.2, run_sliceBound w kl l hh.toNat _ h.1 h1]
 | some m =>
   obtain ⟨km, m⟩ := m
   cases hi with
   | none => simp [slPre] at h
   | some hh =>
     obtain ⟨kh, hh⟩ := hh
     cases lo with
     | none =>
       simp only [slPre, Option.map] at h
       have h1 : hh ≤ ((m.toNat : Nat) : Int) := by omega
       simp [Instr.sliceBounds, intV, bLo, bHi, run_sliceBound w km m cap _ (by omega) h.2.2, run_sliceBound w kh hh m.toNat _ h.1 h1]
     | some l =>
       obtain ⟨kl, l⟩ := l
       simp only [slPre, Option.map] at h
       have h1 : hh ≤ ((m.toNat : Nat) : Int) := by omega
       have h2 : l ≤ ((hh.toNat : Nat) : Int) := by omega
       simp [Instr.sliceBounds, intV, bLo, bHi, run_sliceBound w km m cap _ (by omega) h.2.2.2, run_sliceBound w kh hh m.toNat _ (by omega) h1, run_sliceBound w kl l hh.toNat _ h.1 h2]
def cutL {α : Type} (xs : List α) (lo hi : Option Int) : List α :=
 match hi with
 | none => (match lo with
   | none => xs
   | some l => xs.drop l.toNat)
 | some h => (match lo with
   | none => xs.take h.toNat
   | some l => (xs.take h.toNat).drop l.toNat)
theorem cutL_spec {α : Type} (xs : List α) (lo hi : Option Int) (h : bHi xs.length hi ≤ xs.length) : (cutL xs lo hi).length = bHi xs.length hi - bLo lo ∧
   ∀ i (h1 : i < (cutL xs lo hi).length) (h2 : bLo lo + i < xs.length), (cutL xs lo hi)[i] = xs[bLo lo + i] := by
 cases hi <;> cases lo <;> simp_all [cutL, bHi, bLo] <;> omega
/-- The elements of a slice object, if 'ver' is its version. -/
def scOf (st : St) (o ver : Nat) : Option (TypeId × (e : Ty) × List e.D) :=
 match st.ob[o]? with
 | some (.sc v te e xs) => (match Nat.beq ver v with
   | true => some (te, ⟨e, xs⟩)
   | false => none)
 | _ => none
theorem scOf_spec {st : St} {o ver : Nat} {r : TypeId × (e : Ty) × List e.D} (h : scOf st o ver = some r) : st.ob[o]? = some (.sc ver r.1 r.2.1 r.2.2) ∧ st.inf o = some ⟨ver, .arr r.2.2.length r.2.1.sh⟩ := by
 unfold scOf at h
 split at h <;> try (cases h; done)
 rename_i v te e xs ho
 split at h <;> try (cases h; done)
 rename_i hv
 injection h with h; subst h
 have := Nat.eq_of_beq_eq_true hv
 subst this
 exact ⟨ho, by simp [St.inf, ho, Ob.inf]⟩
def sliceA (X : Cx) (st : St) (T : TypeId) (x : AV) (lo hi mx : Option Int) : Option (AV × Prop) :=
 match x with
 | .str s => (match X.tt T with
   | some ti => (match ti.ds, mx with
     | .str, none => some (.str (s.extract (bLo lo) (bHi s.size hi)), slPre s.size s.size lo hi none)
     | _, _ => none)
   | none => none)
 | .vv (.slice none 0 0) => (match elemOf X T with
   | some (none, _) => some (.vv (.slice none 0 0), slPre 0 0 lo hi mx)
   | _ => none)
 | .sl e xs => (match elemOf X T with
   | some (none, eti) => (match Nat.beq eti.size e.sz with
     | true => some (.sl e (cutL xs lo hi), slPre xs.length xs.length lo hi mx)
     | false => none)
   | _ => none)
 | .own o ver => (match elemOf X T, scOf st o ver with
   | some (none, eti), some r => (match Nat.beq eti.size r.2.1.sz with
     | true => some (.sub o ver [] (bLo lo) (bHi r.2.2.length hi - bLo lo), slPre r.2.2.length r.2.2.length lo hi mx)
     | false => none)
   | _, _ => none)
 | .sub o ver p l n => (match elemOf X T, content st o ver with
   | some (none, eti), some c => (match getAt c p with
     | some (.ar e _ _) => (match Nat.beq eti.size e.sz with
       | true => some (.sub o ver p (l + bLo lo) (bHi n hi - bLo lo), slPre n n lo hi mx)
       | false => none)
     | _ => none)
   | _, _ => none)
 | .ptr o ver p => (match elemOf X T, content st o ver with
   | some (some n, eti), some c => (match getAt c p with
     | some (.ar e m _) => (match Nat.beq m n, Nat.beq eti.size e.sz with
       | true, true => some (.sub o ver p (bLo lo) (bHi n hi - bLo lo), slPre n n lo hi mx)
       | _, _ => none)
     | _ => none)
   | _, _ => none)
 | .pt (.a2 e) d => (match elemOf X T, lo, hi, mx with
   | some (some n, eti), none, none, none => (match Nat.beq 2 n, Nat.beq eti.size e.sz with
     | true, true => some (.sl e [d.1, d.2], True)
     | _, _ => none)
   | _, _, _, _ => none)
 | _ => none
section
variable {X : Cx} {G : En} {E : Env} {F : Nat → Prop} {st : St} {a : Act} {w : World}
theorem run_sliceAt_sl {T e : TypeId} {eti : TI} (hu : X.P.underlying T = some (.slice e)) (ok : TI.Ok X.P e eti) (A : Option Addr) {n c : Nat} {lo hi mx : Option (IntKind × Int)}
   (hp : slPre n c (lo.map (·.2)) (hi.map (·.2)) (mx.map (·.2))) :
   (Instr.sliceAt T (.slice A n c) (intV lo) (intV hi) (intV mx)).run X.P w =
     .ok (.slice (if bHi c (mx.map (·.2)) = bLo (lo.map (·.2)) then A else A.map (·.add (bLo (lo.map (·.2)) * eti.size))) (bHi n (hi.map (·.2)) - bLo (lo.map (·.2))) (bHi c (mx.map (·.2)) - bLo (lo.map (·.2)))) w := by
 simp only [Instr.sliceAt, Sem.run_bind, run_underlying hu, Result.andThen_ok, Instr.slice, run_sliceBounds true hp, ok.run_sizeOf, Sem.run_pure]
theorem run_sliceAt_ar {T e : TypeId} {n : Nat} {eti : TI} (hu : X.P.underlying T = some (.array n e)) (ok : TI.Ok X.P e eti) (A : Addr) {lo hi mx : Option (IntKind × Int)}
   (hp : slPre n n (lo.map (·.2)) (hi.map (·.2)) (mx.map (·.2))) :
   (Instr.sliceAt T (.pointer (some A)) (intV lo) (intV hi) (intV mx)).run X.P w =
     .ok (.slice (some (if bHi n (mx.map (·.2)) = bLo (lo.map (·.2)) then A else A.add (bLo (lo.map (·.2)) * eti.size))) (bHi n (hi.map (·.2)) - bLo (lo.map (·.2))) (bHi n (mx.map (·.2)) - bLo (lo.map (·.2)))) w := by
 simp only [Instr.sliceAt, Sem.run_bind, run_underlying hu, Result.andThen_ok, Instr.sureAddr, Sem.run_pure, run_sliceBounds false hp, ok.run_sizeOf]
theorem run_sliceAt_str {T : TypeId} (hu : X.P.underlying T = some .string) (s : ByteArray) {lo hi : Option (IntKind × Int)}
   (hp : slPre s.size s.size (lo.map (·.2)) (hi.map (·.2)) none) :
   (Instr.sliceAt T (.string s) (intV lo) (intV hi) none).run X.P w = .ok (.string (s.extract (bLo (lo.map (·.2))) (bHi s.size (hi.map (·.2))))) w := by
 have := run_sliceBounds (P := X.P) (w := w) false (mx := none) hp
 simp only [intV, Option.map_none] at this
 simp only [Instr.sliceAt, Sem.run_bind, run_underlying hu, Result.andThen_ok, Instr.slice, Option.isSome_none, Bool.false_eq_true, if_false, intV, this, Sem.run_pure]
theorem TR.sub {I : Nat → Option Inf} {o ver : Nat} {p : List Nat} {s e : Sh} {off N lo n q c : Nat} (hI : I o = some ⟨ver, s⟩) (hp : PathA s p N e off) (h1 : lo + n ≤ N) (h2 : 0 < n → q = off + lo * e.sz) (h3 : n ≤ c) :
   TR E I F w (.sub o ver p lo n) (.slice (some ⟨E.β o, q, none⟩) n c) := by
 refine ⟨?_, by simp [Shaped, AV.isAgg, Value.cells]⟩
 simp only [CR, Value.cells]
 refine ⟨by simp, by simp [Value.oneCell'], fun s' hs' => ?_⟩
 rw [hI] at hs'
 injection hs' with hs'; injection hs' with _ hs'; subst hs'
 exact ⟨off, N, e, hp, h1, q, c, rfl, h2, h3⟩
theorem TR.sl {I : Nat → Option Inf} {e : Ty} {xs : List e.D} {A : Option Addr} {c : Nat} (hl : xs.length ≤ c ∧ xs.length ≤ 140737488355328)
   (h : ∀ i (h : i < xs.length), ∃ ad ecs, A = some ad ∧ F ad.block ∧ CD F w e xs[i] ecs ∧ CellsAt w (ad.add (i * e.sz)) ecs) : TR E I F w (.sl e xs) (.slice A xs.length c) := by
 refine ⟨?_, by simp [Shaped, AV.isAgg, Value.cells]⟩
 simp only [CR, Value.cells, CD]
 exact ⟨A, c, rfl, hl, h⟩
theorem run_sliceA (hX : X.Ok) (h : Rel G E F st a w) {T : TypeId} {x : AV} {lo hi mx : Option (IntKind × Int)} {u : Value} {v : AV} {p : Prop} (hx : TR E st.inf F w x u)
   (hl : sliceA X st T x (lo.map (·.2)) (hi.map (·.2)) (mx.map (·.2)) = some (v, p)) (hp : p) :
   ∃ r, (Instr.sliceAt T u (intV lo) (intV hi) (intV mx)).run X.P w = .ok r w ∧ TR E st.inf F w v r := by
 unfold sliceA at hl
 split at hl
 · rename_i s
   split at hl <;> try (cases hl; done)
   rename_i ti hti
   split at hl <;> try (cases hl; done)
   rename_i hds hmx
   injection hl with hl; injection hl with h1 h2; subst h1 h2
   obtain ⟨d, hd, hdd⟩ := (hX.tt _ _ hti).under
   rw [hds] at hdd
   cases d <;> simp only [dsOf] at hdd <;> try (cases hdd; done)
   have := str_val hx
   subst this
   have hmx' : mx = none := by cases mx <;> simp_all
   subst hmx'
   exact ⟨_, run_sliceAt_str hd s hp, TR.str _⟩
 · split at hl <;> try (cases hl; done)
   rename_i eti heo
   injection hl with hl; injection hl with h1 h2; subst h1 h2
   obtain ⟨e, hu, ok⟩ := elemOf_spec hX heo
   obtain ⟨q1, q2⟩ := hx
   simp only [CR] at q1
   simp only [Shaped, AV.isAgg, Bool.false_eq_true, if_false] at q2
   have hu' : u = .slice none 0 0 := by rw [q2] at q1; simpa using q1.1
   subst hu'
   have hle := slPre_le hp (Nat.le_refl _)
   have hr := run_sliceAt_sl hu ok none (w := w) hp
   have e1 : bLo (lo.map (·.2)) = 0 := by omega
   have e2 : bHi 0 (hi.map (·.2)) = 0 := by omega
   have e3 : bHi 0 (mx.map (·.2)) = 0 := by omega
   rw [e1, e2, e3] at hr
   refine ⟨_, hr, ?_⟩
   exact ⟨by simp [CR, Value.cells, Value.oneCell'], by simp [Shaped, AV.isAgg, Value.cells]⟩
 · rename_i e xs
   split at hl <;> try (cases hl; done)
   rename_i eti heo
   split at hl <;> try (cases hl; done)
   rename_i hb
   injection hl with hl; injection hl with h1 h2; subst h1 h2
   have hb := Nat.eq_of_beq_eq_true hb
   obtain ⟨te, hu, ok⟩ := elemOf_spec hX heo
   obtain ⟨A, c, rfl, hm, hel⟩ := one_sl hx
   have hle := slPre_le hp (Nat.le_refl _)
   refine ⟨_, run_sliceAt_sl hu ok _ (slPre_cap hp hm.1), ?_⟩
   have hm2 := (slPre_le (slPre_cap hp hm.1) hm.1).2.1
   obtain ⟨k1, k2⟩ := cutL_spec xs (lo.map (·.2)) (hi.map (·.2)) (by omega)
   have hlen : bHi xs.length (hi.map (·.2)) - bLo (lo.map (·.2)) = (cutL xs (lo.map (·.2)) (hi.map (·.2))).length := k1.symm
   rw [hlen]
   refine TR.sl ⟨by omega, by omega⟩ (fun i hi' => ?_)
   have hlt : bLo (lo.map (·.2)) + i < xs.length := by omega
   obtain ⟨ad, ecs, rfl, hF, hc, hat⟩ := hel _ hlt
   rw [k2 i hi' hlt]
   rw [if_neg (by omega)]
   refine ⟨_, ecs, rfl, by rw [block_add]; exact hF, hc, ?_⟩
   rw [add_add, hb, ← Nat.add_mul]
   exact hat
 · rename_i o ver
   split at hl <;> try (cases hl; done)
   rename_i eti r heo hc
   split at hl <;> try (cases hl; done)
   rename_i hb
   injection hl with hl; injection hl with h1 h2; subst h1 h2
   have hb := Nat.eq_of_beq_eq_true hb
   obtain ⟨te, hu, ok⟩ := elemOf_spec hX heo
   obtain ⟨ho, hI⟩ := scOf_spec hc
   have := one_own hx hI
   subst this
   obtain ⟨cs, g1, g2, g3, g4, g5, g6⟩ := h.obs _ _ ho
   have hle := slPre_le hp (Nat.le_refl _)
   refine ⟨_, run_sliceAt_sl hu ok _ (slPre_cap hp g2), ?_⟩
   have hm2 : bHi r.2.2.length (hi.map (·.2)) ≤ bHi (E.cap o) (mx.map (·.2)) := by
     have := (slPre_le (slPre_cap hp g2) g2).2.1; exact this
   by_cases hq : bHi (E.cap o) (mx.map (·.2)) = bLo (lo.map (·.2))
   · rw [if_pos hq]
     exact TR.sub hI (.inl (PathTo.here _)) (by omega) (fun hn => by omega) (by omega)
   · rw [if_neg hq]
     simp only [Option.map_some, Addr.add_lit]
     exact TR.sub hI (.inl (PathTo.here _)) (by omega) (fun _ => by rw [hb]; rfl) (by omega)
 · rename_i o ver p' l n
   split at hl <;> try (cases hl; done)
   rename_i eti c heo hc
   split at hl <;> try (cases hl; done)
   rename_i e m xs hs
   split at hl <;> try (cases hl; done)
   rename_i hb
   injection hl with hl; injection hl with h1 h2; subst h1 h2
   have hb := Nat.eq_of_beq_eq_true hb
   obtain ⟨te, hu, ok⟩ := elemOf_spec hX heo
   obtain ⟨ob, ho, hi', hI⟩ := content_spec hc
   obtain ⟨off', N, eS, hpa, hlo, q, cc, rfl, hq, hn⟩ := one_sub hx hI
   obtain ⟨cs, T', c0, rest, g1, g2, g3⟩ := h.content hc
   have hpt := hpa.arr hs g3
   obtain ⟨hsh, _⟩ := CR.path hs hpt g3
   simp only [AV.sh] at hsh
   injection hsh with q1 q2
   subst q1 q2
   have hle := slPre_le hp (Nat.le_refl _)
   refine ⟨_, run_sliceAt_sl hu ok _ (slPre_cap hp hn), ?_⟩
   have hm2 := (slPre_le (slPre_cap hp hn) hn).2.1
   by_cases hqq : bHi cc (mx.map (·.2)) = bLo (lo.map (·.2))
   · rw [if_pos hqq]
     exact TR.sub hI (.inl hpt) (by omega) (fun hn => by omega) (by omega)
   · rw [if_neg hqq]
     simp only [Option.map_some, Addr.add_lit]
     refine TR.sub hI (.inl hpt) (by omega) (fun hz => ?_) (by omega)
     rw [hq (by omega), hb, Nat.add_assoc, Nat.add_mul]
     rfl
 · rename_i o ver p'
   split at hl <;> try (cases hl; done)
   rename_i n eti c heo hc
   split at hl <;> try (cases hl; done)
   rename_i e m xs hs
   split at hl <;> try (cases hl; done)
   rename_i hb1 hb
   injection hl with hl; injection hl with h1 h2; subst h1 h2
   have hb1 := Nat.eq_of_beq_eq_true hb1
   have hb := Nat.eq_of_beq_eq_true hb
   subst hb1
   obtain ⟨te, hu, ok⟩ := elemOf_spec hX heo
   obtain ⟨ob, ho, hi', hI⟩ := content_spec hc
   obtain ⟨t, off', hpt, rfl⟩ := one_ptr hx hI
   obtain ⟨cs, T', c0, rest, g1, g2, g3⟩ := h.content hc
   obtain ⟨hsh, _⟩ := CR.path hs hpt g3
   subst hsh
   have hle := slPre_le hp (Nat.le_refl _)
   refine ⟨_, run_sliceAt_ar hu ok _ hp, ?_⟩
   by_cases hqq : bHi m (mx.map (·.2)) = bLo (lo.map (·.2))
   · rw [if_pos hqq]
     exact TR.sub hI (.inl hpt) (by omega) (fun hn => by omega) (by omega)
   · rw [if_neg hqq]
     simp only [Addr.add_lit]
     exact TR.sub hI (.inl hpt) (by omega) (fun _ => by rw [hb]; rfl) (by omega)
 · rename_i e d
   split at hl <;> try (cases hl; done)
   rename_i n eti heo hlo hhi hmx
   split at hl <;> try (cases hl; done)
   rename_i hb1 hb
   injection hl with hl; injection hl with h1 h2; subst h1 h2
   have hb1 := Nat.eq_of_beq_eq_true hb1
   have hb := Nat.eq_of_beq_eq_true hb
   subst hb1
   obtain ⟨te, hu, ok⟩ := elemOf_spec hX heo
   obtain rfl : lo = none := by cases lo <;> simp_all
   obtain rfl : hi = none := by cases hi <;> simp_all
   obtain rfl : mx = none := by cases mx <;> simp_all
   obtain ⟨ad, c, rfl, hF, hc, hat⟩ := one_pt hx
   have hc' : CD F w (.ar 2 e) [d.1, d.2] c := by
     have := CR.ofD (E := E) (I := st.inf) hc
     simpa only [ofD, CR] using this
   refine ⟨_, run_sliceAt_ar hu ok _ (by simp [slPre, bLo, bHi]), ?_⟩
   have e0 : (if bHi 2 (Option.map (fun x : IntKind × Int => x.2) none) = bLo (Option.map (fun x : IntKind × Int => x.2) none) then ad else ad.add (bLo (Option.map (fun x : IntKind × Int => x.2) none) * eti.size)) = ad.add (0 * eti.size) := by
     simp [bLo, bHi]
   rw [e0]
   refine TR.sl (A := some (ad.add (0 * eti.size))) (xs := [d.1, d.2]) ⟨by simp [bHi, bLo], by simp⟩ fun i hi' => ?_
   have hlt : i < 2 := by simpa using hi'
   obtain ⟨pre, mid, post, e1, e2, e3, _⟩ := hc'.ar_split hlt
   refine ⟨_, mid, rfl, by rw [block_add]; exact hF, ?_, ?_⟩
   · have hg : ([d.1, d.2] : List e.D).getD i e.dflt = [d.1, d.2][i] := by rw [List.getD_eq_getElem?_getD, List.getElem?_eq_getElem hi']; rfl
     rw [← hg]; exact e3
   · rw [add_add, Nat.zero_mul, Nat.zero_add, ← e2]
     rw [e1] at hat
     exact hat.sub
 · cases hl
end
end Go.Am

/- The abstract machine, part 8: structs and arrays that are built; small operations. -/
namespace Go.Am
open Go
theorem run_mapM_list {α β : Type} {P : Program} {w : World} {f : α → Sem β} {g : α → β} : ∀ (l : List α), (∀ x, x ∈ l → (f x).run P w = .ok (g x) w) → (l.mapM f).run P w = .ok (l.map g) w
 | [], _ => by simp
 | x :: l, h => by
   simp [List.mapM_cons, h x (by simp), run_mapM_list l (fun y hy => h y (by simp [hy]))]
theorem run_mapM_array {α β : Type} {P : Program} {w : World} {f : α → Sem β} {g : α → β} (xs : Array α) (h : ∀ x, x ∈ xs.toList → (f x).run P w = .ok (g x) w) : (xs.mapM f).run P w = .ok (xs.map g) w := by
 rw [Array.mapM_eq_mapM_toList, Sem.run_map, run_mapM_list xs.toList h]
 simp only [Result.andThen_ok]
 rw [← Array.toList_map, Array.toArray_toList]
/-- A part is laid into cells. -/
theorem fold_set : ∀ (vs : List Value) (off k : Nat) (cells : Array Value), off + k + vs.length ≤ cells.size →
   ((vs.zipIdx k).foldl (fun cs (p : Value × Nat) => cs.setIfInBounds (off + p.2) p.1) cells).toList = cells.toList.take (off + k) ++ (vs ++ cells.toList.drop (off + k + vs.length))
 | [], off, k, cells, _ => by simp
 | v :: vs, off, k, cells, h => by
   simp only [List.length_cons] at h
   simp only [List.zipIdx_cons, List.foldl_cons]
   rw [fold_set vs off (k + 1) _ (by simp; omega)]
   have hlt : off + k < cells.toList.length := by simp; omega
   have h1 : off + (k + 1) = off + k + 1 := by omega
   have h2 : off + k + 1 + vs.length = off + k + (vs.length + 1) := by omega
   rw [h1, h2, Array.toList_setIfInBounds]
   rw [List.take_succ_eq_append_getElem (by simpa using hlt)]
   simp only [List.getElem_set_self, List.append_assoc, List.length_cons, List.cons_append, List.nil_append]
   rw [List.take_set_of_le (by omega), List.drop_set_of_lt (by omega)]
theorem fill_cons {place : Nat → Option (Nat × Nat)} {cells : Array Value} {i off size : Nat} {v : Value} {rest : List (Nat × Value)} (hp : place i = some (off, size)) (hs : v.cells.size = size) (hb : off + size ≤ cells.size) :
   Instr.fill place cells ((i, v) :: rest) = Instr.fill place (cells.toList.take off ++ (v.cells.toList ++ cells.toList.drop (off + size))).toArray rest := by
 have hf : (v.cells.zipIdx.foldl (fun cs (c, j) => cs.setIfInBounds (off + j) c) cells) = (cells.toList.take off ++ (v.cells.toList ++ cells.toList.drop (off + size))).toArray := by
   apply Array.ext'
   rw [← Array.foldl_toList]
   have := fold_set v.cells.toList off 0 cells (by simp; omega)
   simp only [Nat.add_zero, Array.length_toList, hs] at this
   rw [show v.cells.zipIdx.toList = v.cells.toList.zipIdx 0 by simp]
   rw [← this]
 simp only [Instr.fill, hp]
 rw [if_neg (by simp; omega)]
 rw [hf]
/-- Part i of a shape. -/
def subSh : Sh → Nat → Option Sh
 | .node l, i => l[i]?
 | .arr n e, i => if i < n then some e else none
 | _, _ => none
/-- The parts of a literal, laid into its zero value. -/
def fillA (place : Nat → Option (Nat × Nat)) (c : AV) : List (Nat × AV) → Option AV
 | [] => some c
 | (i, v) :: rest =>
   match subSh c.sh i, place i with
   | some t, some (_, size) => (match Sh.beq v.sh t, Nat.beq size t.sz, setAt c [i] v with
     | true, true, some c' => fillA place c' rest
     | _, _, _ => none)
   | _, _ => none
theorem setAt_getAt {c v c' : AV} {i : Nat} (h : setAt c [i] v = some c') : ∃ s, getAt c [i] = some s := by
 cases c <;> simp only [setAt] at h <;> try (cases h; done)
 · split at h <;> try (cases h; done)
   rename_i x hx
   exact ⟨x, by simp [getAt, hx]⟩
 · exact ⟨_, rfl⟩
theorem fillA_spec {E : Env} {I : Nat → Option Inf} {F : Nat → Prop} {w : World} {place : Nat → Option (Nat × Nat)} :
   ∀ {parts : List (Nat × AV)} {vals : List (Nat × Value)} {c c' : AV} {cells : Array Value}, fillA place c parts = some c' → CR E I F w c cells.toList →
     (∀ i t off size, place i = some (off, size) → subSh c.sh i = some t → PathTo c.sh [i] t off) →
     vals.length = parts.length → (∀ (k : Nat) (p : Nat × AV) (q : Nat × Value), parts[k]? = some p → vals[k]? = some q → q.1 = p.1 ∧ CR E I F w p.2 q.2.cells.toList) →
     ∃ cells', Instr.fill place cells vals = some cells' ∧ CR E I F w c' cells'.toList ∧ c'.sh = c.sh
 | [], [], c, c', cells, h, hc, _, _, _ => by
   simp only [fillA] at h
   injection h with h; subst h
   exact ⟨cells, rfl, hc, rfl⟩
 | (i, v) :: parts, (i', u) :: vals, c, c', cells, h, hc, hpl, hlen, hv => by
   simp only [fillA] at h
   split at h <;> try (cases h; done)
   rename_i t off size hg hpi
   split at h <;> try (cases h; done)
   rename_i c1 hb1 hb2 hset
   have hb1 := Sh.eq_of_beq _ _ hb1
   have hb2 := Nat.eq_of_beq_eq_true hb2
   have h0 := hv 0 _ _ rfl rfl
   obtain ⟨e0, hcu⟩ := h0
   simp only at e0 hcu
   subst e0
   have hpath := hpl _ t off size hpi hg
   obtain ⟨s, hs⟩ := setAt_getAt hset
   obtain ⟨q0, pre, mid, post, e1, e2, e3, e4⟩ := CR.path hs hpath hc
   obtain ⟨g1, g2⟩ := e4 v c1 _ hset hb1 hcu
   have hul : u.cells.toList.length = size := by rw [hcu.len, hb1, hb2]
   have hml : mid.length = size := by rw [e3.len, ← q0, hb2]
   have hf := fill_cons (rest := vals) (cells := cells) hpi (by simpa using hul) (by
     have := congrArg List.length e1
     simp only [Array.length_toList, List.length_append] at this
     omega)
   have hcells : (cells.toList.take off ++ (u.cells.toList ++ cells.toList.drop (off + size))) = pre ++ (u.cells.toList ++ post) := by
     rw [e1, ← e2, List.take_left, ← hml, ← List.drop_drop, List.drop_left, List.drop_left]
   rw [hcells] at hf
   rw [hf]
   have := fillA_spec (place := place) (parts := parts) (vals := vals) (cells := (pre ++ (u.cells.toList ++ post)).toArray) h g1 (by rw [g2]; exact hpl) (by simpa using hlen)
     (fun k p q hp hq => hv (k + 1) p q (by simpa using hp) (by simpa using hq))
   exact this.imp fun cells' ⟨r1, r2, r3⟩ => ⟨r1, r2, r3.trans g2⟩
 | [], _ :: _, _, _, _, _, _, _, hlen, _ => by simp at hlen
 | _ :: _, [], _, _, _, _, _, _, hlen, _ => by simp at hlen
/-- The offsets and sizes of a type's parts agree with a shape. -/
def sizesOf (X : Cx) : List (Nat × TypeId) → Option (List (Nat × Nat))
 | [] => some []
 | (off, t) :: l => (match X.tt t, sizesOf X l with
   | some ti, some r => some ((off, ti.size) :: r)
   | _, _ => none)
def offsOk : Nat → List (Nat × Nat) → List Sh → Bool
 | _, [], [] => true
 | k, (off, size) :: l, s :: m => Nat.beq off k && Nat.beq size s.sz && offsOk (k + s.sz) l m
 | _, _, _ => false
theorem offsOk_spec : ∀ {k : Nat} {l : List (Nat × Nat)} {m : List Sh}, offsOk k l m = true → ∀ (i off size : Nat) (t : Sh), l[i]? = some (off, size) → m[i]? = some t → off = k + Sh.szs (m.take i)
 | _, [], [], _, i, off, size, t, h, _ => by simp at h
 | k, (o, s) :: l, s' :: m, h, 0, off, size, t, h1, h2 => by
   simp only [offsOk, Bool.and_eq_true] at h
   simp at h1
   have := Nat.eq_of_beq_eq_true h.1.1
   simp [Sh.szs]; omega
 | k, (o, s) :: l, s' :: m, h, i + 1, off, size, t, h1, h2 => by
   simp only [offsOk, Bool.and_eq_true] at h
   simp at h1 h2
   have := offsOk_spec h.2 i off size t h1 h2
   simp [Sh.szs]; omega
 | _, [], _ :: _, h, _, _, _, _, _, _ => by simp [offsOk] at h
 | _, _ :: _, [], h, _, _, _, _, _, _ => by simp [offsOk] at h
theorem offsOk_len : ∀ {k : Nat} {l : List (Nat × Nat)} {m : List Sh}, offsOk k l m = true → l.length = m.length
 | _, [], [], _ => rfl
 | k, (o, s) :: l, s' :: m, h => by
   simp only [offsOk, Bool.and_eq_true] at h
   simp [offsOk_len h.2]
 | _, [], _ :: _, h => by simp [offsOk] at h
 | _, _ :: _, [], h => by simp [offsOk] at h
def buildA (X : Cx) (T : TypeId) (parts : List (Nat × AV)) : Option (AV × Prop) :=
 match X.tt T with
 | some ti => (match ti.ds with
   | .st fs => (match sizesOf X fs, ti.zero with
     | some r, .agg l => (match offsOk 0 r (AV.shs l), fillA (fun (i : Nat) => r[i]?) ti.zero parts with
       | true, some c => some (c, True)
       | _, _ => none)
     | _, _ => none)
   | .ar n e => (match X.tt e, ti.zero.sh with
     | some eti, .arr _ s => (match Nat.beq eti.size s.sz, fillA (fun i => some (i * eti.size, eti.size)) ti.zero parts with
       | true, some c => some (c, True)
       | _, _ => none)
     | some eti, .node l => (match offsOk 0 ((List.range n).map fun i => (i * eti.size, eti.size)) l, fillA (fun i => some (i * eti.size, eti.size)) ti.zero parts with
       | true, some c => some (c, True)
       | _, _ => none)
     | _, _ => none)
   | _ => none)
 | none => none
/-- Several operands. -/
def evalL (gl : Nat → Option ((t : Ty) × t.D)) (st : St) : List Operand → Option (List AV)
 | [] => some []
 | x :: l => (match evalA gl st x, evalL gl st l with
   | some a, some r => some (a :: r)
   | _, _ => none)
theorem sizesOf_spec {X : Cx} (hX : X.Ok) : ∀ {l : List (Nat × TypeId)} {r : List (Nat × Nat)}, sizesOf X l = some r → r = l.map (fun p => (p.1, X.P.cellsOf p.2)) ∧ ∀ p ∈ l, ∃ i, X.P.info? p.2 = some i
 | [], r, h => by simp [sizesOf] at h; subst h; simp
 | (off, t) :: l, r, h => by
   simp only [sizesOf] at h
   split at h <;> try (cases h; done)
   rename_i ti r' hti hr
   injection h with h; subst h
   obtain ⟨e1, e2⟩ := sizesOf_spec hX hr
   obtain ⟨i, hi, hs, _⟩ := (hX.tt _ _ hti).inf
   refine ⟨by simp [e1, Program.cellsOf, hi, hs], fun p hp => ?_⟩
   rcases List.mem_cons.1 hp with rfl | hp
   · exact ⟨i, hi⟩
   · exact e2 p hp
section
variable {X : Cx} {G : En} {E : Env} {F : Nat → Prop} {st : St} {a : Act} {w : World}
theorem TR.agg_of {I : Nat → Option Inf} {c : AV} {cells : Array Value} (ha : c.isAgg = true) (h : CR E I F w c cells.toList) : TR E I F w c (.agg cells) := by
 cases c <;> simp [AV.isAgg] at ha
 all_goals exact ⟨h, by simp [Shaped, AV.isAgg]⟩
theorem isAgg_of_sh {c c' : AV} (h : c'.sh = c.sh) (hc : c.isAgg = true) : c'.isAgg = true := by
 cases c <;> simp [AV.isAgg] at hc <;> cases c' <;> simp_all [AV.sh, AV.isAgg]
def nilCells : List Value → Bool
 | [] => true
 | .slice none 0 0 :: l => nilCells l
 | _ => false
/-- An array of slices, some of which are own. -/
def buildN (X : Cx) (T : TypeId) (parts : List (Nat × AV)) : Option (AV × Prop) :=
 match X.tt T with
 | some ti => (match ti.ds with
   | .ar n e => (match X.tt e with
     | some eti => (match Nat.beq eti.size 1, nilCells ti.zv.cells.toList, Nat.beq ti.zv.cells.toList.length n, fillA (fun i => some (i * eti.size, eti.size)) (.agg (List.replicate n (.vv (.slice none 0 0)))) parts with
       | true, true, true, some c => some (c, True)
       | _, _, _, _ => none)
     | none => none)
   | _ => none)
 | none => none
theorem nilCells_CR {I : Nat → Option Inf} : ∀ {cs : List Value}, nilCells cs = true → CRs E I F w (List.replicate cs.length (.vv (.slice none 0 0))) cs
 | [], _ => by simp [CRs]
 | c :: cs, h => by
   unfold nilCells at h
   split at h
   · rename_i e; cases e
   · rename_i l e
     injection e with e1 e2
     subst e1 e2
     rw [List.length_cons, List.replicate_succ]
     simp only [CRs]
     exact ⟨[_], cs, rfl, by simp [CR, Value.oneCell'], nilCells_CR h⟩
   · cases h
theorem szs_cells : ∀ n : Nat, Sh.szs (List.replicate n .cell) = n
 | 0 => by simp [Sh.szs]
 | n + 1 => by rw [List.replicate_succ, Sh.szs, szs_cells n]; simp only [Sh.sz]; omega
theorem shs_nils : ∀ n : Nat, AV.shs (List.replicate n (.vv (.slice none 0 0))) = List.replicate n .cell
 | 0 => by simp [AV.shs]
 | n + 1 => by rw [List.replicate_succ, AV.shs, shs_nils n, List.replicate_succ]; rfl
theorem run_buildN (hX : X.Ok) {I : Nat → Option Inf} {T : TypeId} {parts : List (Nat × AV)} {vals : List (Nat × Value)} {v : AV} {p : Prop} (hl : buildN X T parts = some (v, p))
   (hlen : vals.length = parts.length) (hv : ∀ (k : Nat) (p : Nat × AV) (q : Nat × Value), parts[k]? = some p → vals[k]? = some q → q.1 = p.1 ∧ CR E I F w p.2 q.2.cells.toList) :
   ∃ r, (Instr.build T vals.toArray).run X.P w = .ok r w ∧ TR E I F w v r := by
 unfold buildN at hl
 split at hl <;> try (cases hl; done)
 rename_i ti hti
 have ok := hX.tt _ _ hti
 obtain ⟨d, hd, hdd⟩ := ok.under
 split at hl <;> try (cases hl; done)
 rename_i n e hds
 rw [hds] at hdd
 cases d <;> simp only [dsOf] at hdd <;> try (cases hdd; done)
 rename_i n' e'
 injection hdd with q1 q2; subst q1 q2
 split at hl <;> try (cases hl; done)
 rename_i eti heti
 split at hl <;> try (cases hl; done)
 rename_i c hs1 hnil hsz hfill
 injection hl with hl; injection hl with h1 h2; subst h1
 have hs1 := Nat.eq_of_beq_eq_true hs1
 have hsz := Nat.eq_of_beq_eq_true hsz
 have hz : CR E I F w (.agg (List.replicate n' (.vv (.slice none 0 0)))) ti.zv.cells.toList := by
   simp only [CR]
   rw [← hsz]
   exact nilCells_CR hnil
 obtain ⟨cells', r1, r2, r3⟩ := fillA_spec hfill hz (fun i t off size hp hs => by
   simp only [AV.sh, shs_nils, subSh] at hs ⊢
   injection hp with hp; injection hp with hp _; subst hp
   have hi : i < n' := by
     rw [List.getElem?_replicate] at hs
     split at hs
     · assumption
     · cases hs
   have := PathTo.node hs (PathTo.here t)
   rw [List.take_replicate, szs_cells, Nat.min_eq_left (by omega)] at this
   rw [hs1, Nat.mul_one]
   simpa using this) hlen hv
 refine ⟨.agg cells', ?_, TR.agg_of (isAgg_of_sh r3 rfl) r2⟩
 simp only [Instr.build, Sem.run_bind, ok.run_zeroValue, Result.andThen_ok, run_underlying hd, (hX.tt _ _ heti).run_sizeOf, r1, Sem.run_pure]
theorem run_buildA (hX : X.Ok) {I : Nat → Option Inf} {T : TypeId} {parts : List (Nat × AV)} {vals : List (Nat × Value)} {v : AV} {p : Prop} (hl : buildA X T parts = some (v, p))
   (hlen : vals.length = parts.length) (hv : ∀ (k : Nat) (p : Nat × AV) (q : Nat × Value), parts[k]? = some p → vals[k]? = some q → q.1 = p.1 ∧ CR E I F w p.2 q.2.cells.toList) :
   ∃ r, (Instr.build T vals.toArray).run X.P w = .ok r w ∧ TR E I F w v r := by
 unfold buildA at hl
 split at hl <;> try (cases hl; done)
 rename_i ti hti
 have ok := hX.tt _ _ hti
 have hz : CR E I F w ti.zero ti.zv.cells.toList := CR.lit ok.lit
 obtain ⟨d, hd, hdd⟩ := ok.under
 split at hl <;> try (cases hl; done)
 · rename_i fs hds
   split at hl <;> try (cases hl; done)
   rename_i r l hsz hzero
   split at hl <;> try (cases hl; done)
   rename_i c hoff hfill
   injection hl with hl; injection hl with h1 h2; subst h1
   rw [hds] at hdd
   cases d <;> simp only [dsOf] at hdd <;> try (cases hdd; done)
   rename_i fields
   injection hdd with hdd
   obtain ⟨e1, e2⟩ := sizesOf_spec hX hsz
   have hmap : (fields.mapM fun f => do pure (f.offset, ← sizeOf f.type) : Sem (Array (Nat × Nat))).run X.P w = .ok (fields.map fun f => (f.offset, X.P.cellsOf f.type)) w := by
     refine run_mapM_array fields (fun f hf => ?_)
     obtain ⟨i, hi⟩ := e2 (f.offset, f.type) (by rw [← hdd]; exact List.mem_map.2 ⟨f, hf, rfl⟩)
     simp [sizeOf, typeInfo, hi, Program.cellsOf]
   have hplace : ∀ i : Nat, (fields.map fun f => (f.offset, X.P.cellsOf f.type))[i]? = r[i]? := by
     intro i
     rw [e1, ← hdd]
     simp
     rfl
   obtain ⟨cells', r1, r2, r3⟩ := fillA_spec (place := fun (i : Nat) => r[i]?) hfill hz (fun (i : Nat) t off size hp hs => by
     rw [hzero] at hs ⊢
     simp only [AV.sh, subSh] at hs ⊢
     have := offsOk_spec hoff i off size t hp hs
     simp only [Nat.zero_add] at this
     rw [this]
     simpa using PathTo.node hs (PathTo.here t)) hlen hv
   refine ⟨.agg cells', ?_, TR.agg_of (isAgg_of_sh r3 (by rw [hzero]; rfl)) r2⟩
   have hfun : (fun (i : Nat) => (fields.map fun f => (f.offset, X.P.cellsOf f.type))[i]?) = (fun (i : Nat) => r[i]?) := funext hplace
   simp only [Instr.build, Sem.run_bind, ok.run_zeroValue, Result.andThen_ok, run_underlying hd, hmap, hfun, r1, Sem.run_pure]
 · rename_i n e hds
   rw [hds] at hdd
   cases d <;> simp only [dsOf] at hdd <;> try (cases hdd; done)
   rename_i n' e'
   injection hdd with q1 q2; subst q1 q2
   have hagg : ti.zero.isAgg = true := by rw [← ok.agg, hds]; rfl
   split at hl <;> try (cases hl; done)
   · rename_i eti m s heti hzs
     split at hl <;> try (cases hl; done)
     rename_i c hb hfill
     injection hl with hl; injection hl with h1 h2; subst h1
     have hb := Nat.eq_of_beq_eq_true hb
     obtain ⟨cells', r1, r2, r3⟩ := fillA_spec hfill hz (fun i t off size hp hs => by
       rw [hzs] at hs ⊢
       simp only [subSh] at hs
       split at hs <;> try (cases hs; done)
       rename_i hi
       injection hs with hs; subst hs
       injection hp with hp; injection hp with hp _; subst hp
       rw [hb]
       simpa using PathTo.arr hi (PathTo.here s)) hlen hv
     refine ⟨.agg cells', ?_, TR.agg_of (isAgg_of_sh r3 hagg) r2⟩
     simp only [Instr.build, Sem.run_bind, ok.run_zeroValue, Result.andThen_ok, run_underlying hd, (hX.tt _ _ heti).run_sizeOf, r1, Sem.run_pure]
   · rename_i eti l heti hzs
     split at hl <;> try (cases hl; done)
     rename_i c hoff hfill
     injection hl with hl; injection hl with h1 h2; subst h1
     have hll : l.length = n' := by
       have := offsOk_len hoff
       simpa using this.symm
     obtain ⟨cells', r1, r2, r3⟩ := fillA_spec hfill hz (fun i t off size hp hs => by
       rw [hzs] at hs ⊢
       simp only [subSh] at hs
       injection hp with hp; injection hp with hp _; subst hp
       have hi : i < l.length := (List.getElem?_eq_some_iff.1 hs).1
       have := offsOk_spec hoff i (i * eti.size) eti.size t (by simp [show i < n' by omega]) hs
       simp only [Nat.zero_add] at this
       rw [this]
       simpa using PathTo.node hs (PathTo.here t)) hlen hv
     refine ⟨.agg cells', ?_, TR.agg_of (isAgg_of_sh r3 hagg) r2⟩
     simp only [Instr.build, Sem.run_bind, ok.run_zeroValue, Result.andThen_ok, run_underlying hd, (hX.tt _ _ heti).run_sizeOf, r1, Sem.run_pure]
end
end Go.Am

/- The abstract machine, part 9: the operations that change no object, together. -/
namespace Go.Am
open Go
def unA (wr : Bool) (op : UnOp) (x : AV) : Option (AV × Prop) :=
 match op, x with
 | .neg, .int k n => (match isU k || wr with
   | true => some (.int k (modU k (0 - n)), True)
   | false => some (.int k (-n), inR k (-n)))
 | .xor, .int k n => (match isU k with
   | true => none
   | false => some (.int k (bXor k (-1) n), True))
 | .not, .tt => some (.ff, True)
 | .not, .ff => some (.tt, True)
 | .not, .bool b => some (.bool (!b), True)
 | .not, .pb p d => some (.pb (¬ p) (@instDecidableNot p d), True)
 | _, _ => none
def extractA (x : AV) (i : Nat) : Option (AV × Prop) :=
 match x with
 | .tup l => (match l[i]? with
   | some a => some (a, True)
   | none => none)
 | _ => none
/-- Is a reference up to date? -/
def refOk (st : St) (x : AV) : Bool :=
 match x with
 | .own o ver => (scOf st o ver).isSome
 | .sub o ver _ _ _ => (content st o ver).isSome
 | .ptr o ver _ => (content st o ver).isSome
 | _ => true
theorem refOk_own {st : St} {o ver : Nat} (h : refOk st (.own o ver) = true) : ∃ n e, st.inf o = some ⟨ver, .arr n e⟩ := by
 simp only [refOk] at h
 cases hr : scOf st o ver with
 | none => rw [hr] at h; cases h
 | some r => exact ⟨_, _, (scOf_spec hr).2⟩
theorem refOk_content {st : St} {o ver : Nat} (h : (content st o ver).isSome = true) : ∃ s, st.inf o = some ⟨ver, s⟩ := by
 cases hr : content st o ver with
 | none => rw [hr] at h; cases h
 | some r => obtain ⟨_, _, _, h3⟩ := content_spec hr; exact ⟨_, h3⟩
/-- 'nilCheck' lets these by. -/
def nilA (st : St) (x : AV) : Option (AV × Prop) :=
 match x with
 | .ptr .. => (match refOk st x with
   | true => some (x, True)
   | false => none)
 | .pt .. | .pv .. | .clo .. | .int .. => some (x, True)
 | _ => none
def convA (X : Cx) (wr : Bool) (dst : TypeId) (x : AV) : Option (AV × Prop) :=
 match X.tt dst, x with
 | some ti, .int k n => (match ti.ds with
   | .int k' => (match kEq k k' with
     | true => some (.int k' n, inR k' n)
     | false => (match wr with
       | true => some (.int k' (modU k' n), True)
       | false => some (.int k' n, inR k' n)))
   | _ => none)
 | some ti, .str s => (match ti.ds with
   | .str => some (.str s, True)
   | _ => none)
 | _, _ => none
/-- Of a slice's, a map's, a pointer's type: nil, or surely not nil? -/
def nilOf (d : Ds) (x : AV) : Option Bool :=
 match d, x with
 | .sl _, .vv (.slice none _ _) => some true
 | .sl _, .own .. => some false
 | .sl _, .sub .. => some false
 | .mp _ _, .vv (.map none) => some true
 | .mp _ _, .mp .. => some false
 | .pt _, .vv (.pointer none) => some true
 | .pt _, .ptr .. => some false
 | .pt _, .pt .. => some false
 | .pt _, .pv .. => some false
 | _, _ => none
def isNilV (d : Ds) (x : AV) : Bool :=
 match d, x with
 | .sl _, .vv (.slice none _ _) => true
 | .mp _ _, .vv (.map none) => true
 | .pt _, .vv (.pointer none) => true
 | _, _ => false
def lenA (X : Cx) (st : St) (T : TypeId) (x : AV) : Option (AV × Prop) :=
 match X.tt T with
 | some ti => (match ti.ds, x with
   | .str, .str s => some (.int .i64 (s.size : Int), True)
   | .ar n _, _ => some (.int .i64 (n : Int), True)
   | .sl _, .sl _ xs => some (.int .i64 (xs.length : Int), True)
   | .sl _, .own o ver => (match scOf st o ver with
     | some r => some (.int .i64 (r.2.2.length : Int), True)
     | none => none)
   | .sl _, .sub o ver _ _ n => (match content st o ver with
     | some _ => some (.int .i64 (n : Int), True)
     | none => none)
   | .sl _, .vv (.slice none n _) => some (.int .i64 (n : Int), True)
   | _, _ => none)
 | none => none
def foldI (f : Int → Int → Int) (k : IntKind) : Int → List AV → Option (AV × Prop)
 | x, [] => some (.int k x, True)
 | x, .int k' y :: l => (match kEq k k' with
   | true => foldI f k (f x y) l
   | false => none)
 | _, _ => none
def minI (x y : Int) : Int := if y < x then y else x
def maxI (x y : Int) : Int := if x < y then y else x
section
variable {X : Cx} {G : En} {E : Env} {F : Nat → Prop} {st : St} {a : Act} {w : World}
theorem run_unA {I : Nat → Option Inf} {wr : Bool} {op : UnOp} {x : AV} {u : Value} {v : AV} {p : Prop} (hx : TR E I F w x u) (hl : unA wr op x = some (v, p)) (hp : p) :
   ∃ r, (Op.unary op u).run X.P w = .ok r w ∧ TR E I F w v r := by
 unfold unA at hl
 split at hl
 · rename_i k n
   have := int_val hx; subst this
   split at hl
   · injection hl with hl; injection hl with h1 h2; subst h1
     exact ⟨.int k (k.wrap (0 - n)), rfl, by rw [wrap_modU]; exact TR.int _ _⟩
   · injection hl with hl; injection hl with h1 h2; subst h1 h2
     have : k.wrap (0 - n) = -n := by rw [Int.zero_sub]; exact wrap_inR hp
     exact ⟨.int k (k.wrap (0 - n)), rfl, by rw [this]; exact TR.int _ _⟩
 · rename_i k n
   have := int_val hx; subst this
   split at hl <;> try (cases hl; done)
   rename_i hu
   injection hl with hl; injection hl with h1 h2; subst h1
   have hs : k.signed = true := by cases k <;> simp_all [isU, IntKind.signed]
   refine ⟨.int k (bXor k (-1) n), ?_, TR.int _ _⟩
   simp only [Op.unary, hs, if_true]; rfl
 · injection hl with hl; injection hl with h1 h2; subst h1
   have := bool_val (b := true) rfl hx; subst this
   exact ⟨.bool false, rfl, TR.ff⟩
 · injection hl with hl; injection hl with h1 h2; subst h1
   have := bool_val (b := false) rfl hx; subst this
   exact ⟨.bool true, rfl, TR.tt⟩
 · rename_i b
   injection hl with hl; injection hl with h1 h2; subst h1
   have := bool_val (b := b) rfl hx; subst this
   exact ⟨.bool (!b), rfl, TR.bool _⟩
 · rename_i q d
   injection hl with hl; injection hl with h1 h2; subst h1
   have := bool_val (b := @decide q d) rfl hx; subst this
   refine ⟨.bool (!(@decide q d)), rfl, ?_⟩
   have := TR.pb (E := E) (I := I) (F := F) (w := w) (¬ q) (@instDecidableNot q d)
   rwa [show (@decide (¬ q) (@instDecidableNot q d)) = !(@decide q d) from by simp] at this
 · cases hl
theorem VRs.get {I : Nat → Option Inf} : ∀ {l : List AV} {vs : List Value} {i : Nat} {x : AV}, VRs E I F w l vs → l[i]? = some x → ∃ v, vs[i]? = some v ∧ CR E I F w x v.cells.toList ∧ Shaped x v
 | a :: l, vs, 0, x, h, hi => by
   simp only [VRs] at h
   obtain ⟨v, us, rfl, h1, h2, _⟩ := h
   simp at hi; subst hi
   exact ⟨v, rfl, h1, h2⟩
 | a :: l, vs, i + 1, x, h, hi => by
   simp only [VRs] at h
   obtain ⟨v, us, rfl, h1, h2, h3⟩ := h
   simp at hi
   obtain ⟨v', h4, h5⟩ := VRs.get h3 hi
   exact ⟨v', by simpa using h4, h5⟩
 | [], _, _, _, _, hi => by simp at hi
theorem TR.of_VR {I : Nat → Option Inf} {x : AV} {v : Value} (h : CR E I F w x v.cells.toList) (hs : Shaped x v) : TR E I F w x v := by
 cases x with
 | dead => simp only [CR] at h
 | tup l => simp only [CR] at h
 | _ => exact ⟨h, hs⟩
theorem run_extractA {I : Nat → Option Inf} {x : AV} {i : Nat} {u : Value} {v : AV} {p : Prop} (hx : TR E I F w x u) (hl : extractA x i = some (v, p)) :
   ∃ r, (Instr.extract u i).run X.P w = .ok r w ∧ TR E I F w v r := by
 unfold extractA at hl
 split at hl <;> try (cases hl; done)
 rename_i l
 split at hl <;> try (cases hl; done)
 rename_i y hy
 injection hl with hl; injection hl with h1 h2; subst h1
 obtain ⟨vs, rfl, hvs⟩ := hx
 obtain ⟨r, hr, h3, h4⟩ := hvs.get hy
 exact ⟨r, by simp [Instr.extract, hr], TR.of_VR h3 h4⟩
theorem one_cell {I : Nat → Option Inf} {x : AV} {u : Value} (hx : CR E I F w x u.cells.toList ∧ Shaped x u) (ha : x.isAgg = false) : CR E I F w x [u] := by
 obtain ⟨h1, h2⟩ := hx
 simp only [Shaped, ha, Bool.false_eq_true, if_false] at h2
 rw [h2] at h1
 exact h1
theorem run_convA (hX : X.Ok) {I : Nat → Option Inf} {wr : Bool} {src dst : TypeId} {d : TypeDesc} (hsrc : X.P.underlying src = some d) {x : AV} {u : Value} {v : AV} {p : Prop} (hx : TR E I F w x u) (hl : convA X wr dst x = some (v, p)) (hp : p) :
   ∃ r, (convert src dst u).run X.P w = .ok r w ∧ TR E I F w v r := by
 unfold convA at hl
 split at hl <;> try (cases hl; done)
 · rename_i ti k n hti
   obtain ⟨dd, hd, hdd⟩ := (hX.tt _ _ hti).under
   split at hl <;> try (cases hl; done)
   rename_i k' hds
   rw [hds] at hdd
   cases dd <;> simp only [dsOf] at hdd <;> try (cases hdd; done)
   rename_i kk
   injection hdd with hdd; subst hdd
   have := int_val hx; subst this
   have hrun : (convert src dst (.int k n)).run X.P w = .ok (.int kk (kk.wrap n)) w := by
     simp only [convert, Sem.run_bind, run_underlying hsrc, run_underlying hd, Result.andThen_ok]
     cases d <;> rfl
   split at hl
   · injection hl with hl; injection hl with h1 h2; subst h1 h2
     exact ⟨_, hrun, by rw [wrap_inR hp]; exact TR.int _ _⟩
   · split at hl
     · injection hl with hl; injection hl with h1 h2; subst h1 h2
       exact ⟨_, hrun, by rw [wrap_modU]; exact TR.int _ _⟩
     · injection hl with hl; injection hl with h1 h2; subst h1 h2
       exact ⟨_, hrun, by rw [wrap_inR hp]; exact TR.int _ _⟩
 · rename_i ti s hti
   obtain ⟨dd, hd, hdd⟩ := (hX.tt _ _ hti).under
   split at hl <;> try (cases hl; done)
   rename_i hds
   rw [hds] at hdd
   cases dd <;> simp only [dsOf] at hdd <;> try (cases hdd; done)
   injection hl with hl; injection hl with h1 h2; subst h1 h2
   have := str_val hx; subst this
   refine ⟨.string s, ?_, TR.str _⟩
   simp only [convert, Sem.run_bind, run_underlying hsrc, run_underlying hd, Result.andThen_ok]
   cases d <;> rfl
theorem run_lenA (hX : X.Ok) {T ty : TypeId} {x : AV} {u : Value} {v : AV} {p : Prop} (hx : TR E st.inf F w x u) (hl : lenA X st T x = some (v, p)) :
   ∃ r, (Builtin.len_ #[T] ty #[u]).run X.P w = .ok r w ∧ TR E st.inf F w v r := by
 unfold lenA at hl
 split at hl <;> try (cases hl; done)
 rename_i ti hti
 obtain ⟨dd, hd, hdd⟩ := (hX.tt _ _ hti).under
 split at hl <;> try (cases hl; done)
 · rename_i s hds
   rw [hds] at hdd
   cases dd <;> simp only [dsOf] at hdd <;> try (cases hdd; done)
   injection hl with hl; injection hl with h1 h2; subst h1 h2
   have := str_val hx; subst this
   exact ⟨_, by simp [Builtin.len_, run_underlying hd]; rfl, TR.int _ _⟩
 · rename_i n e hds
   rw [hds] at hdd
   cases dd <;> simp only [dsOf] at hdd <;> try (cases hdd; done)
   injection hdd with q1 q2; subst q1 q2
   injection hl with hl; injection hl with h1 h2; subst h1 h2
   exact ⟨_, by simp [Builtin.len_, run_underlying hd]; rfl, TR.int _ _⟩
 · rename_i e e' xs hds
   rw [hds] at hdd
   cases dd <;> simp only [dsOf] at hdd <;> try (cases hdd; done)
   injection hl with hl; injection hl with h1 h2; subst h1 h2
   obtain ⟨A, c, rfl, _⟩ := one_sl hx
   exact ⟨_, by simp [Builtin.len_, run_underlying hd]; rfl, TR.int _ _⟩
 · rename_i e o ver hds
   rw [hds] at hdd
   cases dd <;> simp only [dsOf] at hdd <;> try (cases hdd; done)
   split at hl <;> try (cases hl; done)
   rename_i r hr
   injection hl with hl; injection hl with h1 h2; subst h1 h2
   obtain ⟨ho, hI⟩ := scOf_spec hr
   have := one_own hx hI
   subst this
   exact ⟨_, by simp [Builtin.len_, run_underlying hd]; rfl, TR.int _ _⟩
 · rename_i e o ver p' lo n hds
   rw [hds] at hdd
   cases dd <;> simp only [dsOf] at hdd <;> try (cases hdd; done)
   split at hl <;> try (cases hl; done)
   rename_i c hc
   injection hl with hl; injection hl with h1 h2; subst h1 h2
   obtain ⟨ob, ho, hi, hI⟩ := content_spec hc
   obtain ⟨off', N, eS, hpt, hlo, q, cc, rfl, hq, hn⟩ := one_sub hx hI
   exact ⟨_, by simp [Builtin.len_, run_underlying hd]; rfl, TR.int _ _⟩
 · rename_i e n c hds
   rw [hds] at hdd
   cases dd <;> simp only [dsOf] at hdd <;> try (cases hdd; done)
   injection hl with hl; injection hl with h1 h2; subst h1 h2
   have := one_cell hx rfl
   simp only [CR] at this
   obtain ⟨h1, _⟩ := this
   injection h1 with h1 _
   subst h1
   exact ⟨_, by simp [Builtin.len_, run_underlying hd]; rfl, TR.int _ _⟩
theorem run_foldMin {I : Nat → Option Inf} {k : IntKind} : ∀ {l : List AV} {us : List Value} {x : Int} {v : AV} {p : Prop}, VRs E I F w l us → foldI minI k x l = some (v, p) →
   ∃ r, (us.foldlM Builtin.min2 (.int k x)).run X.P w = .ok r w ∧ TR E I F w v r
 | [], us, x, v, p, h, hl => by
   simp only [VRs] at h; subst h
   simp only [foldI] at hl
   injection hl with hl; injection hl with h1 h2; subst h1
   exact ⟨.int k x, rfl, TR.int _ _⟩
 | a :: l, us, x, v, p, h, hl => by
   simp only [VRs] at h
   obtain ⟨u, us', rfl, h1, h2, h3⟩ := h
   unfold foldI at hl
   split at hl <;> try (cases hl; done)
   · rename_i heq; cases heq
   · rename_i k' y l' heq
     injection heq with e1 e2; subst e1 e2
     split at hl <;> try (cases hl; done)
     rename_i hk
     have hk := kEq_eq hk; subst hk
     have := int_val (TR.of_VR h1 h2); subst this
     obtain ⟨r, h4, h5⟩ := run_foldMin h3 hl
     refine ⟨r, ?_, h5⟩
     simp only [List.foldlM_cons, Sem.run_bind, Builtin.min2, Sem.run_pure, Result.andThen_ok]
     exact h4
theorem run_foldMax {I : Nat → Option Inf} {k : IntKind} : ∀ {l : List AV} {us : List Value} {x : Int} {v : AV} {p : Prop}, VRs E I F w l us → foldI maxI k x l = some (v, p) →
   ∃ r, (us.foldlM Builtin.max2 (.int k x)).run X.P w = .ok r w ∧ TR E I F w v r
 | [], us, x, v, p, h, hl => by
   simp only [VRs] at h; subst h
   simp only [foldI] at hl
   injection hl with hl; injection hl with h1 h2; subst h1
   exact ⟨.int k x, rfl, TR.int _ _⟩
 | a :: l, us, x, v, p, h, hl => by
   simp only [VRs] at h
   obtain ⟨u, us', rfl, h1, h2, h3⟩ := h
   unfold foldI at hl
   split at hl <;> try (cases hl; done)
   · rename_i heq; cases heq
   · rename_i k' y l' heq
     injection heq with e1 e2; subst e1 e2
     split at hl <;> try (cases hl; done)
     rename_i hk
     have hk := kEq_eq hk; subst hk
     have := int_val (TR.of_VR h1 h2); subst this
     obtain ⟨r, h4, h5⟩ := run_foldMax h3 hl
     refine ⟨r, ?_, h5⟩
     simp only [List.foldlM_cons, Sem.run_bind, Builtin.max2, Sem.run_pure, Result.andThen_ok]
     exact h4
end
end Go.Am

/- The abstract machine, part 10: an operation that changes no object. -/
namespace Go.Am
open Go
def wrOf (X : Cx) (o : Oper) : Bool :=
 match o.dst with
 | some d => X.hs d
 | none => false
def optI (gl : Nat → Option ((t : Ty) × t.D)) (st : St) : Option Operand → Option (Option (IntKind × Int))
 | none => some none
 | some x => (match evalA gl st x with
   | some (.int k n) => some (some (k, n))
   | _ => none)
def evalP (gl : Nat → Option ((t : Ty) × t.D)) (st : St) : List (Nat × Operand) → Option (List (Nat × AV))
 | [] => some []
 | (i, x) :: l => (match evalA gl st x, evalP gl st l with
   | some a, some r => some ((i, a) :: r)
   | _, _ => none)
def isTup : AV → Bool
 | .tup _ => true
 | _ => false
def noTup : List AV → Bool
 | [] => true
 | a :: l => !isTup a && noTup l
/-- '==' and '!=' against nil. -/
def eqNil (d : Ds) (op : BinOp) (x y : AV) : Option AV :=
 match op with
 | .eql => (match isNilV d y, nilOf d x with
   | true, some true => some .tt
   | true, some false => some .ff
   | _, _ => none)
 | .neq => (match isNilV d y, nilOf d x with
   | true, some true => some .ff
   | true, some false => some .tt
   | _, _ => none)
 | _ => none
def binA (X : Cx) (st : St) (wr : Bool) (op : BinOp) (T : TypeId) (x y : AV) : Option (AV × Prop) :=
 match x, y with
 | .int k a, .int k' b => binS wr op (.int k a) (.int k' b)
 | .str a, .str b => binS wr op (.str a) (.str b)
 | x, y => (match X.tt T with
   | some ti => (match ti.ds with
     | .bool => (match toB x, toB y with
       | some a, some b => binBool op a b
       | _, _ => none)
     | d => (match eqNil d op x y, refOk st x with
       | some v, true => some (v, True)
       | _, _ => none))
   | none => none)
def effP (X : Cx) (gl : Nat → Option ((t : Ty) × t.D)) (st : St) (o : Oper) : Option (AV × Prop) :=
 match o.op with
 | .move x => (match evalA gl st x with
   | some v => some (v, True)
   | none => none)
 | .assign x => (match evalA gl st x with
   | some v => some (v, True)
   | none => none)
 | .pick c a b => (match evalA gl st c with
   | some .tt => (match evalA gl st a with
     | some v => some (v, True)
     | none => none)
   | some .ff => (match evalA gl st b with
     | some v => some (v, True)
     | none => none)
   | _ => none)
 | .load T x => (match evalA gl st x with
   | some v => loadA X st T v
   | none => none)
 | .fieldAddr S x f => (match evalA gl st x with
   | some v => fieldA X st S v f
   | none => none)
 | .field S x f => (match evalA gl st x with
   | some v => fieldV X S v f
   | none => none)
 | .indexAddr T x i => (match evalA gl st x, evalA gl st i with
   | some v, some (.int _ n) => indexA X st T v n
   | _, _ => none)
 | .index T x i => (match evalA gl st x, evalA gl st i with
   | some v, some (.int _ n) => indexV X T v n
   | _, _ => none)
 | .slice T x lo hi mx => (match evalA gl st x, optI gl st lo, optI gl st hi, optI gl st mx with
   | some v, some l, some h, some m => sliceA X st T v (l.map (·.2)) (h.map (·.2)) (m.map (·.2))
   | _, _, _, _ => none)
 | .binOp op T x y _ => (match evalA gl st x, evalA gl st y with
   | some v, some u => binA X st (wrOf X o) op T v u
   | _, _ => none)
 | .unOp op _ x => (match evalA gl st x with
   | some v => unA (wrOf X o) op v
   | none => none)
 | .convert src dst x => (match X.tt src, evalA gl st x with
   | some _, some v => convA X (wrOf X o) dst v
   | _, _ => none)
 | .extract x i => (match evalA gl st x with
   | some v => extractA v i
   | none => none)
 | .nilCheck x => (match evalA gl st x with
   | some v => nilA st v
   | none => none)
 | .build T ps => (match evalP gl st ps.toList with
   | some l => (match noTup (l.map (·.2)) with
     | true => (match wrOf X o with
       | true => buildN X T l
       | false => buildA X T l)
     | false => none)
   | none => none)
 | .makeFunc (.func f) fs cs => (match evalL gl st fs.toList, evalL gl st cs.toList with
   | some l, some m => (match noTup l, noTup m with
     | true, true => some (.clo f l m, True)
     | _, _ => none)
   | _, _ => none)
 | .call c => (match c.callee with
   | .builtin .len => (match c.argTypes.toList, evalL gl st c.args.toList with
     | [T], some [v] => (match isTup v with
       | true => none
       | false => lenA X st T v)
     | _, _ => none)
   | .builtin .min => (match evalL gl st c.args.toList with
     | some (.int k x :: l) => (match noTup l with
       | true => foldI minI k x l
       | false => none)
     | _ => none)
   | .builtin .max => (match evalL gl st c.args.toList with
     | some (.int k x :: l) => (match noTup l with
       | true => foldI maxI k x l
       | false => none)
     | _ => none)
   | _ => none)
 | _ => none
section
variable {X : Cx} {G : En} {E : Env} {F : Nat → Prop} {st : St} {a : Act} {w : World}
theorem TR.notup {I : Nat → Option Inf} {x : AV} {v : Value} (h : TR E I F w x v) (ht : isTup x = false) (hd : x ≠ .dead) : CR E I F w x v.cells.toList ∧ Shaped x v := by
 cases x <;> simp_all [isTup] <;> exact h
theorem evalA_dead {gl : Nat → Option ((t : Ty) × t.D)} {x : Operand} {v : AV} (h : evalA gl st x = some v) : v ≠ .dead := by
 rintro rfl
 cases x with
 | tmp t =>
   simp only [evalA] at h
   split at h
   · unfold undead at h; split at h <;> simp_all
   · cases h
 | const v =>
   simp only [evalA] at h
   unfold constA at h
   split at h <;> cases h
 | func f => simp [evalA] at h
 | global g =>
   simp only [evalA] at h
   split at h <;> cases h
theorem Rel.evalL (h : Rel G E F st a w) : ∀ {l : List Operand} {r : List AV}, evalL G.gl st l = some r → noTup r = true → VRs E st.inf F w r (l.map a.eval)
 | [], r, hl, _ => by simp only [Am.evalL] at hl; injection hl with hl; subst hl; simp [VRs]
 | x :: l, r, hl, hn => by
   simp only [Am.evalL] at hl
   split at hl <;> try (cases hl; done)
   rename_i v r' hv hr
   injection hl with hl; subst hl
   simp only [noTup, Bool.and_eq_true, Bool.not_eq_true'] at hn
   obtain ⟨h1, h2⟩ := (h.eval hv).notup hn.1 (evalA_dead hv)
   simp only [VRs, List.map_cons]
   exact ⟨_, _, rfl, h1, h2, h.evalL hr hn.2⟩
theorem Rel.evalP (h : Rel G E F st a w) : ∀ {l : List (Nat × Operand)} {r : List (Nat × AV)}, evalP G.gl st l = some r → noTup (r.map (·.2)) = true →
   (l.map fun p => (p.1, a.eval p.2)).length = r.length ∧ ∀ (k : Nat) (p : Nat × AV) (q : Nat × Value), r[k]? = some p → (l.map fun p => (p.1, a.eval p.2))[k]? = some q → q.1 = p.1 ∧ CR E st.inf F w p.2 q.2.cells.toList
 | [], r, hl, _ => by simp only [Am.evalP] at hl; injection hl with hl; subst hl; simp
 | (i, x) :: l, r, hl, hn => by
   simp only [Am.evalP] at hl
   split at hl <;> try (cases hl; done)
   rename_i v r' hv hr
   injection hl with hl; subst hl
   simp only [List.map_cons, noTup, Bool.and_eq_true, Bool.not_eq_true'] at hn
   obtain ⟨h1, h2⟩ := (h.eval hv).notup hn.1 (evalA_dead hv)
   obtain ⟨g1, g2⟩ := h.evalP hr hn.2
   refine ⟨by simpa using g1, fun k p q hp hq => ?_⟩
   cases k with
   | zero => simp at hp hq; subst hp; subst hq; exact ⟨rfl, h1⟩
   | succ k => simp at hp; simp only [List.map_cons, List.getElem?_cons_succ] at hq; exact g2 k p q hp hq
theorem Rel.optI (h : Rel G E F st a w) {o : Option Operand} {r : Option (IntKind × Int)} (ho : optI G.gl st o = some r) : o.map a.eval = intV r := by
 cases o with
 | none => simp only [Am.optI] at ho; injection ho with ho; subst ho; rfl
 | some x =>
   simp only [Am.optI] at ho
   split at ho <;> try (cases ho; done)
   rename_i k n hx
   injection ho with ho; subst ho
   simp [intV, int_val (h.eval hx)]
theorem eqGuard_ok {op : BinOp} {T : TypeId} {x y : Operand} {u v : Value} (h : ∀ cs, u ≠ .agg cs) (h2 : u ≠ .nilIface) : (eqGuard op T x y u v).run X.P w = .ok () w := by
 cases u <;> first | (exact absurd rfl h2) | (exact absurd rfl (h _)) | (cases op <;> rfl)
theorem run_eqIn_slice {T e : TypeId} (hu : X.P.underlying T = some (.slice e)) (n : Nat) (A : Option Addr) (a b c d : Nat) : (Op.equalIn (n + 1) T (.slice A a b) (.slice none c d)).run X.P w = .ok A.isNone w := by
 cases A <;> simp [Op.equalIn, run_underlying hu]
theorem run_eqIn_map {T k e : TypeId} (hu : X.P.underlying T = some (.map k e)) (n : Nat) (A : Option Nat) : (Op.equalIn (n + 1) T (.map A) (.map none)).run X.P w = .ok A.isNone w := by
 cases A <;> simp [Op.equalIn, run_underlying hu]
theorem run_eqIn_ptr {T e : TypeId} (hu : X.P.underlying T = some (.pointer e)) (n : Nat) (A : Option Addr) : (Op.equalIn (n + 1) T (.pointer A) (.pointer none)).run X.P w = .ok A.isNone w := by
 cases A <;> simp [Op.equalIn, run_underlying hu]
structure EqNil (P : Program) (w : World) (T : TypeId) (u u' : Value) (b : Bool) : Prop where
 run : (Op.equal T u u').run P w = .ok b w
 agg : ∀ cs, u ≠ .agg cs
 ifc : u ≠ .nilIface
 eql : binOp .eql T u u' = (do pure (.bool (← Op.equal T u u')))
 neq : binOp .neq T u u' = (do pure (.bool (!(← Op.equal T u u'))))
theorem EqNil.slice {T e : TypeId} (hu : X.P.underlying T = some (.slice e)) (A : Option Addr) (a b c d : Nat) : EqNil X.P w T (.slice A a b) (.slice none c d) A.isNone :=
 ⟨run_eqIn_slice hu 9999 A a b c d, by simp, by simp, rfl, rfl⟩
theorem EqNil.map {T k e : TypeId} (hu : X.P.underlying T = some (.map k e)) (A : Option Nat) : EqNil X.P w T (.map A) (.map none) A.isNone :=
 ⟨run_eqIn_map hu 9999 A, by simp, by simp, rfl, rfl⟩
theorem EqNil.ptr {T e : TypeId} (hu : X.P.underlying T = some (.pointer e)) (A : Option Addr) : EqNil X.P w T (.pointer A) (.pointer none) A.isNone :=
 ⟨run_eqIn_ptr hu 9999 A, by simp, by simp, rfl, rfl⟩
theorem run_equal_nil {I : Nat → Option Inf} {T : TypeId} {d : TypeDesc} (hu : X.P.underlying T = some d) {x y : AV} {u u' : Value} {b : Bool} (hx : TR E I F w x u) (hy : TR E I F w y u')
   (h1 : isNilV (dsOf d) y = true) (h2 : nilOf (dsOf d) x = some b) (hI : ∀ o ver, x = .own o ver → ∃ n e, I o = some ⟨ver, .arr n e⟩) (hI2 : ∀ o ver p lo n, x = .sub o ver p lo n → ∃ s, I o = some ⟨ver, s⟩)
   (hI3 : ∀ o ver p, x = .ptr o ver p → ∃ s, I o = some ⟨ver, s⟩) : EqNil X.P w T u u' b := by
 have hy' : ∀ v, y = .vv v → u' = v := by
   rintro v rfl
   have := one_cell hy rfl
   simp only [CR] at this
   simpa using this.1
 have hx' : ∀ v, x = .vv v → u = v := by
   rintro v rfl
   have := one_cell hx rfl
   simp only [CR] at this
   simpa using this.1
 cases d <;> simp only [dsOf] at h1 h2 <;> try (simp [isNilV] at h1; done)
 case slice e =>
   unfold isNilV at h1
   split at h1 <;> try (cases h1; done)
   all_goals (rename_i heq; first | (cases heq; done) | skip)
   rename_i n c
   have e1 := hy' _ rfl
   subst e1
   unfold nilOf at h2
   split at h2 <;> try (cases h2; done)
   all_goals (injection h2 with h2; subst h2)
   all_goals (rename_i heq; first | (cases heq; done) | skip)
   · have := hx' _ rfl; subst this
     exact EqNil.slice hu _ _ _ _ _
   · obtain ⟨n', e', hi⟩ := hI _ _ rfl
     have := one_own hx hi; subst this
     exact EqNil.slice hu _ _ _ _ _
   · obtain ⟨s, hi⟩ := hI2 _ _ _ _ _ rfl
     obtain ⟨off, N, e, _, _, q, c, rfl, _⟩ := one_sub hx hi
     exact EqNil.slice hu _ _ _ _ _
 case map k e =>
   unfold isNilV at h1
   split at h1 <;> try (cases h1; done)
   all_goals (rename_i heq; first | (cases heq; done) | skip)
   have e1 := hy' _ rfl
   subst e1
   unfold nilOf at h2
   split at h2 <;> try (cases h2; done)
   all_goals (injection h2 with h2; subst h2)
   all_goals (rename_i heq; first | (cases heq; done) | skip)
   · have := hx' _ rfl; subst this
     exact EqNil.map hu _
   · have := one_cell hx rfl
     simp only [CR] at this
     injection this with this _
     subst this
     exact EqNil.map hu _
 case pointer e =>
   unfold isNilV at h1
   split at h1 <;> try (cases h1; done)
   all_goals (rename_i heq; first | (cases heq; done) | skip)
   have e1 := hy' _ rfl
   subst e1
   unfold nilOf at h2
   split at h2 <;> try (cases h2; done)
   all_goals (injection h2 with h2; subst h2)
   all_goals (rename_i heq; first | (cases heq; done) | skip)
   · have := hx' _ rfl; subst this
     exact EqNil.ptr hu _
   · obtain ⟨s, hi⟩ := hI3 _ _ _ rfl
     obtain ⟨t, off, _, rfl⟩ := one_ptr hx hi
     exact EqNil.ptr hu _
   · obtain ⟨ad, c, rfl, _⟩ := one_pt hx
     exact EqNil.ptr hu _
   · obtain ⟨ad, c, rfl, _⟩ := one_pv hx
     exact EqNil.ptr hu _
/-- An operation that changes no object. -/
theorem run_effP (hX : X.Ok) (h : Rel G E F st a w) {o : Oper} {v : AV} {p : Prop} (he : effP X G.gl st o = some (v, p)) (hp : p) :
   ∃ r, (execOp a.eval o).run X.P w = .ok (.value r) w ∧ TR E st.inf F w v r := by
 unfold effP at he
 split at he
 · rename_i x ho
   split at he <;> try (cases he; done)
   rename_i y hy
   injection he with he; injection he with h1 h2; subst h1
   exact ⟨_, by simp only [execOp, ho]; rfl, h.eval hy⟩
 · rename_i x ho
   split at he <;> try (cases he; done)
   rename_i y hy
   injection he with he; injection he with h1 h2; subst h1
   exact ⟨_, by simp only [execOp, ho]; rfl, h.eval hy⟩
 · rename_i c x y ho
   split at he <;> try (cases he; done)
   · rename_i hc
     split at he <;> try (cases he; done)
     rename_i z hz
     injection he with he; injection he with h1 h2; subst h1
     have := bool_val (b := true) rfl (h.eval hc)
     exact ⟨_, by simp only [execOp, ho, this, asBool]; rfl, h.eval hz⟩
   · rename_i hc
     split at he <;> try (cases he; done)
     rename_i z hz
     injection he with he; injection he with h1 h2; subst h1
     have := bool_val (b := false) rfl (h.eval hc)
     exact ⟨_, by simp only [execOp, ho, this, asBool]; rfl, h.eval hz⟩
 · rename_i T x ho
   split at he <;> try (cases he; done)
   rename_i y hy
   obtain ⟨r, h1, h2⟩ := run_loadA hX h (h.eval hy) he
   exact ⟨r, by simp only [execOp, ho, Sem.run_bind, h1, Result.andThen_ok, Sem.run_pure], h2⟩
 · rename_i S x f ho
   split at he <;> try (cases he; done)
   rename_i y hy
   obtain ⟨r, h1, h2⟩ := run_fieldA hX h (h.eval hy) he
   exact ⟨r, by simp only [execOp, ho, Sem.run_bind, h1, Result.andThen_ok, Sem.run_pure], h2⟩
 · rename_i S x f ho
   split at he <;> try (cases he; done)
   rename_i y hy
   obtain ⟨r, h1, h2⟩ := run_fieldV hX (h.eval hy) he
   exact ⟨r, by simp only [execOp, ho, Sem.run_bind, h1, Result.andThen_ok, Sem.run_pure], h2⟩
 · rename_i T x i ho
   split at he <;> try (cases he; done)
   rename_i y k n hy hi
   have hiv := int_val (h.eval hi)
   obtain ⟨r, h1, h2⟩ := run_indexA hX h (k := k) (h.eval hy) he hp
   exact ⟨r, by simp only [execOp, ho, hiv, Sem.run_bind, h1, Result.andThen_ok, Sem.run_pure], h2⟩
 · rename_i T x i ho
   split at he <;> try (cases he; done)
   rename_i y k n hy hi
   have hiv := int_val (h.eval hi)
   obtain ⟨r, h1, h2⟩ := run_indexV hX (k := k) (h.eval hy) he hp
   exact ⟨r, by simp only [execOp, ho, hiv, Sem.run_bind, h1, Result.andThen_ok, Sem.run_pure], h2⟩
 · rename_i T x lo hi mx ho
   split at he <;> try (cases he; done)
   rename_i y l hh m hy h1 h2 h3
   obtain ⟨r, g1, g2⟩ := run_sliceA hX h (h.eval hy) he hp
   exact ⟨r, by simp only [execOp, ho, h.optI h1, h.optI h2, h.optI h3, Sem.run_bind, g1, Result.andThen_ok, Sem.run_pure], g2⟩
 · rename_i op T x y yT ho
   split at he <;> try (cases he; done)
   rename_i v1 v2 hv1 hv2
   have t1 := h.eval hv1
   have t2 := h.eval hv2
   have goal : ∃ r, (binOp op T (a.eval x) (a.eval y)).run X.P w = .ok r w ∧ TR E st.inf F w v r ∧ (∀ cs, a.eval x ≠ .agg cs) ∧ a.eval x ≠ .nilIface := by
     unfold binA at he
     split at he
     · rename_i k n k' n'
       have e1 := int_val t1
       have e2 := int_val t2
       rw [e1, e2]
       simp only [binS] at he
       split at he
       · obtain ⟨r, g1, g2⟩ := run_shInt (P := X.P) (w := w) (k' := k') (E := E) (I := st.inf) (F := F) he hp T
         exact ⟨r, g1, g2, by simp, by simp⟩
       · split at he <;> try (cases he; done)
         rename_i hk
         have hk := kEq_eq hk; subst hk
         obtain ⟨r, g1, g2⟩ := run_binInt (P := X.P) (w := w) (E := E) (I := st.inf) (F := F) he hp T
         exact ⟨r, g1, g2, by simp, by simp⟩
     · have e1 := str_val t1
       have e2 := str_val t2
       rw [e1, e2]
       simp only [binS] at he
       obtain ⟨r, g1, g2⟩ := run_binStr (P := X.P) (w := w) (E := E) (I := st.inf) (F := F) he hp T
       exact ⟨r, g1, g2, by simp, by simp⟩
     · split at he <;> try (cases he; done)
       rename_i ti hti
       obtain ⟨d, hd, hdd⟩ := (hX.tt _ _ hti).under
       split at he
       · rename_i hds
         rw [hds] at hdd
         cases d <;> simp only [dsOf] at hdd <;> try (cases hdd; done)
         split at he <;> try (cases he; done)
         rename_i b1 b2 hb1 hb2
         have e1 := bool_val hb1 t1
         have e2 := bool_val hb2 t2
         rw [e1, e2]
         obtain ⟨r, g1, g2⟩ := run_binBool (P := X.P) (w := w) (E := E) (I := st.inf) (F := F) he hd
         exact ⟨r, g1, g2, by simp, by simp⟩
       · split at he <;> try (cases he; done)
         rename_i v' hq hr
         injection he with he; injection he with h1 h2; subst h1
         rw [← hdd] at hq
         have hcore : ∀ b, isNilV (dsOf d) v2 = true → nilOf (dsOf d) v1 = some b → EqNil X.P w T (a.eval x) (a.eval y) b := by
           intro b q1 q2
           refine run_equal_nil (X := X) hd t1 t2 q1 q2 ?_ ?_ ?_
           · rintro o ver rfl; exact refOk_own hr
           · rintro o ver p lo n rfl; exact refOk_content hr
           · rintro o ver p rfl; exact refOk_content hr
         unfold eqNil at hq
         split at hq <;> try (cases hq; done)
         · split at hq <;> try (cases hq; done)
           all_goals
             rename_i q1 q2
             injection hq with hq; subst hq
             have g := hcore _ q1 q2
             refine ⟨_, by simp only [g.eql, Sem.run_bind, g.run, Result.andThen_ok, Sem.run_pure]; rfl, ?_, g.agg, g.ifc⟩
             first | exact TR.tt | exact TR.ff
         · split at hq <;> try (cases hq; done)
           all_goals
             rename_i q1 q2
             injection hq with hq; subst hq
             have g := hcore _ q1 q2
             refine ⟨_, by simp only [g.neq, Sem.run_bind, g.run, Result.andThen_ok, Sem.run_pure]; rfl, ?_, g.agg, g.ifc⟩
             first | exact TR.tt | exact TR.ff
   obtain ⟨r, g1, g2, g3, g4⟩ := goal
   exact ⟨r, by simp only [execOp, ho, Sem.run_bind, eqGuard_ok g3 g4, g1, Result.andThen_ok, Sem.run_pure], g2⟩
 · rename_i op T x ho
   split at he <;> try (cases he; done)
   rename_i y hy
   obtain ⟨r, h1, h2⟩ := run_unA (X := X) (h.eval hy) he hp
   exact ⟨r, by simp only [execOp, ho, Sem.run_bind, h1, Result.andThen_ok, Sem.run_pure], h2⟩
 · rename_i src dst x ho
   split at he <;> try (cases he; done)
   rename_i ti y hti hy
   obtain ⟨d, hd, _⟩ := (hX.tt _ _ hti).under
   obtain ⟨r, h1, h2⟩ := run_convA hX hd (h.eval hy) he hp
   exact ⟨r, by simp only [execOp, ho, Sem.run_bind, h1, Result.andThen_ok, Sem.run_pure], h2⟩
 · rename_i x i ho
   split at he <;> try (cases he; done)
   rename_i y hy
   obtain ⟨r, h1, h2⟩ := run_extractA (X := X) (h.eval hy) he
   exact ⟨r, by simp only [execOp, ho, Sem.run_bind, h1, Result.andThen_ok, Sem.run_pure], h2⟩
 · rename_i x ho
   split at he <;> try (cases he; done)
   rename_i y hy
   have ty := h.eval hy
   unfold nilA at he
   split at he <;> try (cases he; done)
   · rename_i o' ver p'
     split at he <;> try (cases he; done)
     rename_i hr
     injection he with he; injection he with h1 h2; subst h1
     obtain ⟨s, hi⟩ := refOk_content (o := o') (ver := ver) hr
     obtain ⟨t, off, _, e⟩ := one_ptr ty hi
     exact ⟨a.eval x, by simp only [execOp, ho, e]; rfl, ty⟩
   · injection he with he; injection he with h1 h2; subst h1
     obtain ⟨ad, c, e, _⟩ := one_pt ty
     exact ⟨a.eval x, by simp only [execOp, ho, e]; rfl, ty⟩
   · injection he with he; injection he with h1 h2; subst h1
     obtain ⟨ad, c, e, _⟩ := one_pv ty
     exact ⟨a.eval x, by simp only [execOp, ho, e]; rfl, ty⟩
   · injection he with he; injection he with h1 h2; subst h1
     have := one_cell ty rfl
     simp only [CR] at this
     obtain ⟨vs, us, e, _⟩ := this
     injection e with e _
     exact ⟨a.eval x, by simp only [execOp, ho, e]; rfl, ty⟩
   · injection he with he; injection he with h1 h2; subst h1
     have e := int_val ty
     exact ⟨a.eval x, by simp only [execOp, ho, e]; rfl, ty⟩
 · rename_i T ps ho
   split at he <;> try (cases he; done)
   rename_i l hl
   split at he <;> try (cases he; done)
   rename_i hn
   obtain ⟨g1, g2⟩ := h.evalP hl hn
   obtain ⟨r, h1, h2⟩ : ∃ r, (Instr.build T (ps.toList.map fun p => (p.1, a.eval p.2)).toArray).run X.P w = .ok r w ∧ TR E st.inf F w v r := by
     split at he
     · exact run_buildN (w := w) hX he g1 g2
     · exact run_buildA (w := w) hX he g1 g2
   refine ⟨r, ?_, h2⟩
   have : (ps.map fun p => (p.1, a.eval p.2)) = (ps.toList.map fun p => (p.1, a.eval p.2)).toArray := by
     rw [← Array.toList_map, Array.toArray_toList]
   simp only [execOp, ho]
   rw [show (ps.map fun (x : Nat × Operand) => (match x with | (i, x) => (i, a.eval x))) = (ps.map fun p => (p.1, a.eval p.2)) from rfl, this]
   simp only [Sem.run_bind, h1, Result.andThen_ok, Sem.run_pure]
 · rename_i f fs cs ho
   split at he <;> try (cases he; done)
   rename_i l m hl hm
   split at he <;> try (cases he; done)
   rename_i n1 n2
   injection he with he; injection he with h1 h2; subst h1
   refine ⟨.func (.func f) (fs.map a.eval) (cs.map a.eval), by simp only [execOp, ho, Instr.makeFunc, Sem.run_bind, Sem.run_pure, Result.andThen_ok], ?_⟩
   refine ⟨?_, by simp [Shaped, AV.isAgg, Value.cells]⟩
   simp only [CR, Value.cells]
   refine ⟨_, _, ?_, h.evalL hl n1, h.evalL hm n2⟩
   rw [← Array.toList_map, Array.toArray_toList, ← Array.toList_map, Array.toArray_toList]
 · rename_i c ho
   split at he <;> try (cases he; done)
   · rename_i hc
     split at he <;> try (cases he; done)
     rename_i T v hT hv
     split at he <;> try (cases he; done)
     rename_i ht
     have hvs := h.evalL hv (by simp [noTup, ht])
     simp only [VRs] at hvs
     obtain ⟨u, us, e1, e2, e3, e4⟩ := hvs
     subst e4
     have hargs : c.args.map a.eval = #[u] := by
       rw [← Array.toArray_toList (xs := c.args.map a.eval), Array.toList_map, e1]
     have hTs : c.argTypes = #[T] := by rw [← Array.toArray_toList (xs := c.argTypes), hT]
     obtain ⟨r, g1, g2⟩ := run_lenA (ty := o.type) hX (TR.of_VR e2 e3) he
     refine ⟨r, ?_, g2⟩
     simp only [execOp, ho, resolve, hc, Sem.run_bind, Sem.run_pure, Result.andThen_ok, invoke, builtin, hargs, hTs, g1]
   · rename_i hc
     split at he <;> try (cases he; done)
     rename_i k x l hv
     split at he <;> try (cases he; done)
     rename_i hn
     have hvs := h.evalL hv (by simp [noTup, isTup, hn])
     simp only [VRs] at hvs
     obtain ⟨u, us, e1, e2, e3, e4⟩ := hvs
     have := int_val (TR.of_VR (x := .int k x) e2 e3); subst this
     obtain ⟨r, g1, g2⟩ := run_foldMin (X := X) e4 he
     refine ⟨r, ?_, g2⟩
     have hargs : (c.args.map a.eval).toList = .int k x :: us := by rw [Array.toList_map, e1]
     simp only [execOp, ho, resolve, hc, Sem.run_bind, Sem.run_pure, Result.andThen_ok, invoke, builtin, Builtin.min_, hargs, g1]
   · rename_i hc
     split at he <;> try (cases he; done)
     rename_i k x l hv
     split at he <;> try (cases he; done)
     rename_i hn
     have hvs := h.evalL hv (by simp [noTup, isTup, hn])
     simp only [VRs] at hvs
     obtain ⟨u, us, e1, e2, e3, e4⟩ := hvs
     have := int_val (TR.of_VR (x := .int k x) e2 e3); subst this
     obtain ⟨r, g1, g2⟩ := run_foldMax (X := X) e4 he
     refine ⟨r, ?_, g2⟩
     have hargs : (c.args.map a.eval).toList = .int k x :: us := by rw [Array.toList_map, e1]
     simp only [execOp, ho, resolve, hc, Sem.run_bind, Sem.run_pure, Result.andThen_ok, invoke, builtin, Builtin.max_, hargs, g1]
 · cases he
end
end Go.Am

/- The abstract machine, part 11: objects are made, written, moved. -/
namespace Go.Am
open Go
def hasIn (o : Nat) (v : Option Nat) : List AV → Bool
 | [] => false
 | a :: l => a.has o v || hasIn o v l
def hasInO (o : Nat) (v : Option Nat) : List Ob → Bool
 | [] => false
 | a :: l => a.has o v || hasInO o v l
/-- Is version v of object o named nowhere? -/
def St.noVer (st : St) (o v : Nat) : Bool := !hasIn o (some v) st.tm && !hasInO o (some v) st.ob && !hasIn o none st.tm && !hasInO o none st.ob
theorem hasIn_mem {n : Nat} {v : Option Nat} : ∀ {l : List AV} {i : Nat} {x : AV}, hasIn n v l = false → l[i]? = some x → x.has n v = false
 | [], i, x, _, h => by simp at h
 | a :: l, 0, x, h, hx => by simp at hx; subst hx; simp [hasIn] at h; exact h.1
 | a :: l, i + 1, x, h, hx => by simp at hx; simp [hasIn] at h; exact hasIn_mem h.2 hx
theorem hasInO_mem {n : Nat} {v : Option Nat} : ∀ {l : List Ob} {i : Nat} {x : Ob}, hasInO n v l = false → l[i]? = some x → x.has n v = false
 | [], i, x, _, h => by simp at h
 | a :: l, 0, x, h, hx => by simp at hx; subst hx; simp [hasInO] at h; exact h.1
 | a :: l, i + 1, x, h, hx => by simp at hx; simp [hasInO] at h; exact hasInO_mem h.2 hx
section
variable {G : En} {E : Env} {F : Nat → Prop} {st : St} {a : Act} {w : World}
/-- An object gets a new version, perhaps in a new block. -/
theorem Rel.moveOb (h : Rel G E F st a w) {n ver : Nat} {x y : Ob} {w' : World} {g c : Nat} (hn : st.ob[n]? = some x) (hl : x.inf.isSome = true) (hv : ∀ i, y.inf = some i → i.ver = ver) (hyl : y.inf.isSome = true)
   (hnv : st.noVer n ver = true) (hv0 : ver ≠ 0) (hg : w.grownBy w' (some (E.β n))) (hb : g = E.β n ∨ (w.heap.size ≤ g ∧ g < w'.heap.size)) (hlt : g < w'.heap.size)
   (hx : OR (E.set n g c) (st.setO n y).inf F w' n y) : Rel G (E.set n g c) F (st.setO n y) a w' := by
 have hln : st.live n := by simp [St.live, St.inf, hn, hl]
 have hF : ∀ b, F b → F b ∧ w'.heap[b]? = w.heap[b]? := fun b hb' => ⟨hb', hg.block b (h.frz b hb') (fun e => by injection e with e; exact (h.apart n hln).1 (e ▸ hb'))⟩
 simp only [St.noVer, Bool.and_eq_true, Bool.not_eq_true'] at hnv
 obtain ⟨⟨⟨v1, v2⟩, v3⟩, v4⟩ := hnv
 have hA : ∀ q v, (q = n → v ≠ some ver ∧ v ≠ none) → Ag E (E.set n g c) st.inf (st.setO n y).inf q v := fun q v hq => by
   by_cases e : q = n
   · obtain ⟨h1, h2⟩ := hq e
     subst e
     cases v with
     | none => exact absurd rfl h2
     | some v =>
       intro i hi hiv
       rw [St.inf_setO, if_pos rfl] at hi
       exact absurd (by rw [← hiv, hv i hi]) h1
   · cases v with
     | none => simp [Ag, Env.set, e]
     | some v => exact fun i hi _ => ⟨by rw [St.inf_setO] at hi; simpa [e] using hi, by simp [Env.set, e], by simp [Env.set, e]⟩
 have hlive : ∀ q, (st.setO n y).live q → st.live q := fun q hq => by
   by_cases e : q = n
   · subst e; exact hln
   · simp only [St.live, St.inf_setO, e, if_false] at hq; exact hq
 have hother : ∀ q, st.live q → q ≠ n → E.β q ≠ g := fun q hq hqn e => by
   rcases hb with hb | ⟨hb, _⟩
   · exact hqn (h.inj q n hq hln (by rw [e, hb]))
   · have := (h.apart q hq).2; omega
 refine { defers := h.defers.mono hF, size := h.size, tms := ?_, obs := ?_, apart := ?_, inj := ?_, frz := ?_, new := h.new, own := ?_, os := by rw [hg.os, h.os], tape := by rw [hg.tape, h.tape], output := by rw [hg.output, h.output], grow := Nat.le_trans h.grow hg.size, frame := ?_, glob := h.glob.mono hF, stay := ?_, live0 := ?_ }
 · intro i z hz
   refine (h.tms i z hz).mono hF (fun q v hq => hA q v (fun e => ⟨fun ev => ?_, fun ev => ?_⟩))
   · rw [e, ev, hasIn_mem v1 hz] at hq; cases hq
   · rw [e, ev, hasIn_mem v3 hz] at hq; cases hq
 · intro q z hz
   by_cases hq : q = n
   · subst hq
     simp only [St.setO, setOb_get, if_true] at hz
     injection hz with hz; subst hz; exact hx
   · have hold : st.ob[q]? = some z ∨ z = .gone := by
       simp only [St.setO, setOb_get, hq, if_false] at hz
       by_cases hlt' : q < n
       · simp only [hlt', if_true] at hz
         injection hz with hz
         cases hl' : st.ob[q]? with
         | none => right; rw [← hz]; simp [List.getD_eq_getElem?_getD, hl']
         | some u => left; rw [← hz]; simp [List.getD_eq_getElem?_getD, hl']
       · simp only [hlt', if_false] at hz; exact .inl hz
     rcases hold with hold | rfl
     · refine (h.obs q z hold).mono hF (fun r v hr => hA r v (fun e => ⟨fun ev => ?_, fun ev => ?_⟩)) (fun hlz => ?_)
       · rw [e, ev, hasInO_mem v2 hold] at hr; cases hr
       · rw [e, ev, hasInO_mem v4 hold] at hr; cases hr
       · have hlq : st.live q := by simp [St.live, St.inf, hold, hlz]
         refine ⟨by simp [Env.set, hq], by simp [Env.set, hq], hg.block _ (h.apart q hlq).2 (fun e => ?_)⟩
         injection e with e
         exact hq (h.inj q n hlq hln e)
     · trivial
 · intro q hq
   by_cases e : q = n
   · subst e
     simp only [Env.set, if_true]
     refine ⟨fun hb' => ?_, hlt⟩
     rcases hb with hb | ⟨hb, _⟩
     · exact (h.apart q hln).1 (hb ▸ hb')
     · have := h.frz _ hb'; omega
   · have := h.apart q (hlive q hq)
     simp only [Env.set, e, if_false]
     exact ⟨this.1, Nat.lt_of_lt_of_le this.2 hg.size⟩
 · intro q q' hq hq' he
   by_cases e : q = n <;> by_cases e' : q' = n
   · rw [e, e']
   · simp [Env.set, e, e'] at he
     exact absurd he.symm (hother q' (hlive q' hq') e')
   · simp [Env.set, e, e'] at he
     exact absurd he (hother q (hlive q hq) e)
   · simp [Env.set, e, e'] at he
     exact h.inj q q' (hlive q hq) (hlive q' hq') he
 · intro b hb'; exact Nat.lt_of_lt_of_le (h.frz b hb') hg.size
 · intro q hq
   by_cases e : q = n
   · subst e
     simp only [Env.set, if_true]
     rcases hb with hb | ⟨hb, _⟩
     · rw [hb]; exact h.own q hln
     · left; exact Nat.le_trans h.grow hb
   · have := h.own q (hlive q hq)
     simpa [Env.set, e] using this
 · intro b hb' ho
   rw [hg.block b (Nat.lt_of_lt_of_le hb' h.grow) (fun e => ?_)]
   · exact h.frame b hb' ho
   · injection e with e
     rcases h.own n hln with h1 | ⟨h1, h2⟩
     · omega
     · exact ho n h1 (by rw [← h2, e])
 · intro q i hq hi h0
   rw [St.inf_setO] at hi
   by_cases e : q = n
   · rw [if_pos e] at hi
     exact absurd ((hv i hi).symm.trans h0) hv0
   · rw [if_neg e] at hi
     simpa [Env.set, e] using h.stay q i hq hi h0
 · intro q hq
   by_cases e : q = n
   · simp [St.live, St.inf_setO, e, hyl]
   · have := h.live0 q hq
     simpa [St.live, St.inf_setO, e] using this
end
/-- Slices that are nil, one by one. -/
def nilSls : List Value → Option (List AV)
 | [] => some []
 | .slice none 0 0 :: l => (match nilSls l with
   | some m => some (.vv (.slice none 0 0) :: m)
   | none => none)
 | _ => none
def zeroA (ti : TI) (b : Bool) : AV := match b, nilSls ti.zv.cells.toList with
 | true, some l => .agg l
 | _, _ => ti.zero
theorem nilSls_ok {E : Env} {I : Nat → Option Inf} {F : Nat → Prop} {w : World} : ∀ {cs : List Value} {l : List AV}, nilSls cs = some l → CRs E I F w l cs
 | [], l, h => by simp only [nilSls] at h; injection h with h; subst h; simp only [CRs]
 | v :: cs, l, h => by
   unfold nilSls at h
   split at h
   · rename_i e; cases e
   · rename_i cs' e
     injection e with e1 e2; subst e1 e2
     split at h <;> try (cases h; done)
     rename_i m hm
     injection h with h; subst h
     simp only [CRs]
     exact ⟨[.slice none 0 0], cs, rfl, by simp only [CR]; exact ⟨trivial, rfl⟩, nilSls_ok hm⟩
   · cases h
theorem zeroA_ok {E : Env} {I : Nat → Option Inf} {F : Nat → Prop} {w : World} {ti : TI} {b : Bool} (h : ti.zero.lit = some ti.zv.cells.toList) : CR E I F w (zeroA ti b) ti.zv.cells.toList := by
 unfold zeroA
 split
 · rename_i l hl
   simp only [CR]
   exact nilSls_ok hl
 · exact CR.lit h
def effN (X : Cx) (gl : Nat → Option ((t : Ty) × t.D)) (st : St) (nid : Nat) (o : Oper) : Option (Ob × AV × Prop) :=
 match o.op with
 | .alloc T => (match X.tt T with
   | some ti => some (.bx (zeroA ti (wrOf X o)), .ptr nid 0 [], True)
   | none => none)
 | .box _ x => (match evalA gl st x with
   | some v => (match isTup v, v.names nid with
     | false, false => some (.bx v, .ptr nid 0 [], True)
     | _, _ => none)
   | none => none)
 | .buildSlice T n ps => (match X.tt T with
   | some ti => (match ti.ds with
     | .sl te => (match X.tt te, evalP gl st ps.toList with
       | some eti, some l => (match wrOf X o with
         | true => (match noTup (l.map (·.2)), Nat.ble (n * eti.size + n) 1000, fillA (fun i => some (i * eti.size, eti.size)) (.agg (List.replicate n eti.zero)) l with
           | true, true, some c => (match c.names nid with
             | false => some (.bx c, .sub nid 0 [] 0 n, True)
             | true => none)
           | _, _, _ => none)
         | false => (match eti.pure, noTup (l.map (·.2)), Nat.ble (n * eti.size + n) 1000, fillA (fun i => some (i * eti.size, eti.size)) (.ar eti.ty n (List.replicate n eti.ty.dflt)) l with
           | true, true, true, some (.ar e _ xs) => some (.sc 0 te e xs, .own nid 0, True)
           | _, _, _, _ => none))
       | _, _ => none)
     | _ => none)
   | none => none)
 | .makeSlice T n m => (match X.tt T with
   | some ti => (match ti.ds with
     | .sl te => (match X.tt te, evalA gl st n, evalA gl st m with
       | some eti, some (.int .i64 n), some (.int .i64 m) => (match eti.pure with
         | true => some (.sc 0 te eti.ty (List.replicate n.toNat eti.ty.dflt), .own nid 0, 0 ≤ n ∧ n ≤ m ∧ m * eti.bytes ≤ 140737488355328 ∧ m ≤ 140737488355328)
         | false => none)
       | _, _, _ => none)
     | _ => none)
   | none => none)
 | _ => none
theorem zero_rows (zs : List Value) (hz : 0 < zs.length) : ∀ n : Nat, ((List.range (n * zs.length)).map fun i => zs.toArray[i % zs.length]!) = (List.replicate n zs).flatten
 | 0 => by simp
 | n + 1 => by
   rw [Nat.succ_mul, List.range_add, List.map_append, zero_rows zs hz n, List.replicate_succ', List.flatten_append]
   congr 1
   simp only [List.map_map, List.flatten_cons, List.flatten_nil, List.append_nil]
   apply List.ext_getElem
   · simp
   · intro i h1 h2
     simp only [List.getElem_map, List.getElem_range, Function.comp]
     have hi : i < zs.length := by simpa using h2
     rw [Nat.mul_comm, Nat.mul_add_mod, Nat.mod_eq_of_lt hi]
     simp [hi]
theorem CD.replicate {F : Nat → Prop} {w : World} {e : Ty} {d : e.D} {cs : List Value} (h : CD F w e d cs) (n : Nat) : CD F w (.ar n e) (List.replicate n d) (List.replicate n cs).flatten := by
 simp only [CD]
 refine ⟨by simp, List.replicate n cs, by simp, rfl, fun i hi hi' => ?_⟩
 simpa using h
section
variable {X : Cx} {G : En} {E : Env} {F : Nat → Prop} {st : St} {a : Act} {w : World}
theorem TR.own {I : Nat → Option Inf} {o ver n : Nat} {e : Sh} (hI : I o = some ⟨ver, .arr n e⟩) : TR E I F w (.own o ver) (.slice (some ⟨E.β o, 0, none⟩) n (E.cap o)) := by
 refine ⟨?_, by simp [Shaped, AV.isAgg, Value.cells]⟩
 simp only [CR, Value.cells]
 refine ⟨by simp, by simp [Value.oneCell'], fun n' e' h' => ?_⟩
 rw [hI] at h'
 injection h' with h'; injection h' with _ h'; injection h' with h1 _; subst h1
 rfl
theorem pure_zero {P : Program} {T : TypeId} {ti : TI} (ok : TI.Ok P T ti) (hp : ti.pure = true) : CD F w ti.ty ti.ty.dflt ti.zv.cells.toList ∧ ti.ty.sz = ti.size := by
 have h := CD.lit (F := F) (w := w) (ok.pur hp)
 refine ⟨h, ?_⟩
 rw [← h.len]
 simpa using ok.zsz
theorem shs_replicate (x : AV) : ∀ n : Nat, AV.shs (List.replicate n x) = List.replicate n x.sh
 | 0 => by simp [AV.shs]
 | n + 1 => by rw [List.replicate_succ, AV.shs, shs_replicate x n, List.replicate_succ]
theorem CRs_replicate {I : Nat → Option Inf} {x : AV} {cs : List Value} (h : CR E I F w x cs) : ∀ n : Nat, CRs E I F w (List.replicate n x) (List.replicate n cs).flatten
 | 0 => by simp [CRs]
 | n + 1 => by
   rw [List.replicate_succ, List.replicate_succ, List.flatten_cons]
   simp only [CRs]
   exact ⟨cs, _, rfl, h, CRs_replicate h n⟩
theorem new_own {nid te cap : Nat} {e : Ty} {xs : List e.D} {cells : Array Value} (hxs : xs.length ≤ cap) (hcap : cap ≤ 140737488355328) (hsz : cells.size = cap * e.sz)
   (hc : CD F (w.alloc (.cells cells te)) (.ar xs.length e) xs (cells.toList.take (xs.length * e.sz))) :
   OR (E.set nid w.heap.size cap) (st.setO nid (.sc 0 te e xs)).inf F (w.alloc (.cells cells te)) nid (.sc 0 te e xs) ∧
   TR (E.set nid w.heap.size cap) (st.setO nid (.sc 0 te e xs)).inf F (w.alloc (.cells cells te)) (.own nid 0) (.slice (some ⟨w.heap.size, 0, none⟩) xs.length cap) := by
 refine ⟨⟨cells, by simp only [Env.set, if_true]; exact heap_alloc_new w _, by simpa [Env.set] using hxs, by simp [Env.set, maxLen]; omega, by simpa [Env.set] using hsz, by omega, hc⟩, ?_⟩
 have := TR.own (E := E.set nid w.heap.size cap) (F := F) (w := w.alloc (.cells cells te)) (o := nid) (ver := 0) (n := xs.length) (e := e.sh) (I := (st.setO nid (.sc 0 te e xs)).inf) (by rw [St.inf_setO, if_pos rfl]; rfl)
 simpa [Env.set] using this
theorem new_ptr {nid : Nat} {c : AV} {T : TypeId} {cells : Array Value} (hc : CR (E.set nid w.heap.size 0) (st.setO nid (.bx c)).inf F (w.alloc (.cells cells T)) c cells.toList) :
   OR (E.set nid w.heap.size 0) (st.setO nid (.bx c)).inf F (w.alloc (.cells cells T)) nid (.bx c) ∧
   TR (E.set nid w.heap.size 0) (st.setO nid (.bx c)).inf F (w.alloc (.cells cells T)) (.ptr nid 0 []) (.pointer (some ⟨w.heap.size, 0, none⟩)) := by
 refine ⟨⟨cells, T, by simp only [Env.set, if_true]; exact heap_alloc_new w _, hc⟩, ?_⟩
 have := TR.ptr (E := E.set nid w.heap.size 0) (F := F) (w := w.alloc (.cells cells T)) (o := nid) (ver := 0) (I := (st.setO nid (.bx c)).inf) (p := []) (by rw [St.inf_setO, if_pos rfl]; rfl) (PathTo.here c.sh)
 simpa [Env.set] using this
theorem run_effN (hX : X.Ok) (h : Rel G E F st a w) {nid : Nat} {o : Oper} {ob : Ob} {v : AV} {p : Prop} (hf : st.fresh nid = true) (he : effN X G.gl st nid o = some (ob, v, p)) (hp : p) :
   ∃ r obj cap, (execOp a.eval o).run X.P w = .ok (.value r) (w.alloc obj) ∧ OR (E.set nid w.heap.size cap) (st.setO nid ob).inf F (w.alloc obj) nid ob ∧
     TR (E.set nid w.heap.size cap) (st.setO nid ob).inf F (w.alloc obj) v r := by
 unfold effN at he
 split at he
 · rename_i T ho
   split at he <;> try (cases he; done)
   rename_i ti hti
   injection he with he; injection he with h1 h2; injection h2 with h2 h3; subst h1 h2
   have ok := hX.tt _ _ hti
   obtain ⟨g1, g2⟩ := new_ptr (E := E) (F := F) (st := st) (w := w) (nid := nid) (c := zeroA ti (wrOf X o)) (T := T) (cells := ti.zv.cells) (zeroA_ok ok.lit)
   refine ⟨_, _, 0, ?_, g1, g2⟩
   simp only [execOp, ho, Instr.alloc, Sem.run_bind, ok.run_zeroValue, Result.andThen_ok, newVar, newRow, run_newObj, Sem.run_pure]
   rfl
 · rename_i T x ho
   split at he <;> try (cases he; done)
   rename_i y hy
   split at he <;> try (cases he; done)
   rename_i ht hn
   injection he with he; injection he with h1 h2; injection h2 with h2 h3; subst h1 h2
   obtain ⟨q1, q2⟩ := (h.eval hy).notup ht (evalA_dead hy)
   have hc : CR (E.set nid w.heap.size 0) (st.setO nid (.bx y)).inf F (w.alloc (.cells (a.eval x).cells T)) y (a.eval x).cells.toList := by
     refine CR.mono (fun b hb => ⟨hb, Go.RowKit.Below.heap_alloc w _ b (h.frz b hb)⟩) (fun q v hq => ?_) q1
     have hqn : q ≠ nid := fun e => by have := AV.names_of_has hq; rw [e, hn] at this; cases this
     cases v with
     | none => simp [Ag, Env.set, hqn]
     | some v => exact fun i hi _ => ⟨by rw [St.inf_setO] at hi; simpa [hqn] using hi, by simp [Env.set, hqn], by simp [Env.set, hqn]⟩
   obtain ⟨g1, g2⟩ := new_ptr (E := E) (F := F) (st := st) (w := w) (nid := nid) (c := y) (T := T) (cells := (a.eval x).cells) hc
   refine ⟨_, _, 0, ?_, g1, g2⟩
   simp only [execOp, ho, Instr.box, Sem.run_bind, Result.andThen_ok, newVar, newRow, run_newObj, Sem.run_pure]
   rfl
 · rename_i T n ps ho
   split at he <;> try (cases he; done)
   rename_i ti hti
   split at he <;> try (cases he; done)
   rename_i te hds
   split at he <;> try (cases he; done)
   rename_i eti l heti hl
   split at he
   · split at he <;> try (cases he; done)
     rename_i c hn hble hfill
     split at he <;> try (cases he; done)
     rename_i hnm
     injection he with he; injection he with h1 h2; injection h2 with h2 h3; subst h1 h2
     have ok := hX.tt _ _ hti
     have eok := hX.tt _ _ heti
     obtain ⟨d, hd, hdd⟩ := ok.under
     rw [hds] at hdd
     cases d <;> simp only [dsOf] at hdd <;> try (cases hdd; done)
     rename_i ee
     injection hdd with hdd; subst hdd
     have hz : CR E st.inf F w eti.zero eti.zv.cells.toList := CR.lit eok.lit
     have hzsz : eti.zv.cells.size = eti.size := eok.zsz
     have z2 : eti.zero.sh.sz = eti.size := by rw [← hz.len, Array.length_toList, hzsz]
     have hble := Nat.le_of_ble_eq_true hble
     have hcells0 : ((Array.range (n * eti.size)).map ((if n * eti.size = 0 then (#[] : Array Value) else eti.zv.cells)[· % (if n * eti.size = 0 then (#[] : Array Value) else eti.zv.cells).size]!)).toList = (List.replicate n eti.zv.cells.toList).flatten := by
       by_cases h0 : n * eti.size = 0
       · have : (List.replicate n eti.zv.cells.toList).flatten = [] := by
           apply List.eq_nil_of_length_eq_zero
           rw [List.length_flatten, List.map_replicate, List.sum_replicate_nat, Array.length_toList, hzsz]
           exact h0
         rw [this]
         simp [h0]
       · have hpos : 0 < eti.zv.cells.toList.length := by
           rw [Array.length_toList, hzsz]
           exact Nat.pos_of_ne_zero (fun e => h0 (by rw [e]; simp))
         have := zero_rows eti.zv.cells.toList hpos n
         rw [← this]
         simp only [h0, if_false, Array.toList_map, Array.toList_range, Array.length_toList, hzsz, Array.toArray_toList]
     obtain ⟨e1, e2⟩ := h.evalP hl hn
     have hcr0 : CR E st.inf F w (.agg (List.replicate n eti.zero)) ((Array.range (n * eti.size)).map ((if n * eti.size = 0 then (#[] : Array Value) else eti.zv.cells)[· % (if n * eti.size = 0 then (#[] : Array Value) else eti.zv.cells).size]!)).toList := by
       rw [hcells0]; simp only [CR]; exact CRs_replicate hz n
     obtain ⟨cells', r1, r2, r3⟩ := fillA_spec hfill hcr0 (fun i t off size hp' hs => by
       simp only [AV.sh, shs_replicate, subSh] at hs ⊢
       injection hp' with hp'; injection hp' with hp' _; subst hp'
       have hi : i < n := by
         rw [List.getElem?_replicate] at hs
         split at hs
         · assumption
         · cases hs
       have := PathTo.node hs (PathTo.here t)
       rw [List.take_replicate, szs_replicate, z2, Nat.min_eq_left (by omega)] at this
       simpa using this) e1 e2
     simp only [AV.sh, shs_replicate] at r3
     have hc : CR (E.set nid w.heap.size 0) (st.setO nid (.bx c)).inf F (w.alloc (.cells cells' ee)) c cells'.toList := by
       refine CR.mono (fun b hb => ⟨hb, Go.RowKit.Below.heap_alloc w _ b (h.frz b hb)⟩) (fun q v hq => ?_) r2
       have hqn : q ≠ nid := fun e => by have := AV.names_of_has hq; rw [e, hnm] at this; cases this
       cases v with
       | none => simp [Ag, Env.set, hqn]
       | some v => exact fun i hi _ => ⟨by rw [St.inf_setO] at hi; simpa [hqn] using hi, by simp [Env.set, hqn], by simp [Env.set, hqn]⟩
     obtain ⟨g1, _⟩ := new_ptr (E := E) (F := F) (st := st) (w := w) (nid := nid) (c := c) (T := ee) (cells := cells') hc
     refine ⟨.slice (some ⟨w.heap.size, 0, none⟩) n n, _, 0, ?_, g1, ?_⟩
     · have hsmall : ¬ n * eti.size > 2 ^ 24 := by omega
       have hps : (ps.map fun (x : Nat × Operand) => (match x with | (i, x) => (i, a.eval x))).toList = (ps.toList.map fun p => (p.1, a.eval p.2)) := by
         rw [Array.toList_map]
       have hsm0 : ¬ (0 : Nat) > 2 ^ 24 := by omega
       by_cases h0 : n * eti.size = 0
       · simp only [h0, if_true] at r1
         simp only [execOp, ho, Instr.buildSlice, Sem.run_bind, run_underlying hd, Result.andThen_ok, eok.run_sizeOf, hsm0, if_false, h0, if_true, Sem.run_pure, hps, r1, newRow, run_newObj]
         rfl
       · simp only [h0, if_false] at r1
         simp only [execOp, ho, Instr.buildSlice, Sem.run_bind, run_underlying hd, Result.andThen_ok, eok.run_sizeOf, hsmall, if_false, h0, eok.run_zeroValue, Sem.run_pure, hps, r1, newRow, run_newObj]
         rfl
     · have hI : (st.setO nid (.bx c)).inf nid = some ⟨0, c.sh⟩ := by rw [St.inf_setO, if_pos rfl]; rfl
       have := TR.sub (E := E.set nid w.heap.size 0) (F := F) (w := w.alloc (.cells cells' ee)) (o := nid) (p := []) (N := n) (e := eti.zero.sh) (off := 0) (lo := 0) (n := n) (q := 0) (c := n) hI (.inr (by rw [r3]; exact PathTo.here _)) (by omega) (fun _ => by omega) (Nat.le_refl _)
       simpa [Env.set] using this
   split at he <;> try (cases he; done)
   rename_i e m xs hpu hn hble hfill
   injection he with he; injection he with h1 h2; injection h2 with h2 h3; subst h1 h2
   have ok := hX.tt _ _ hti
   have eok := hX.tt _ _ heti
   obtain ⟨d, hd, hdd⟩ := ok.under
   rw [hds] at hdd
   cases d <;> simp only [dsOf] at hdd <;> try (cases hdd; done)
   rename_i ee
   injection hdd with hdd; subst hdd
   obtain ⟨z1, z2⟩ := pure_zero (F := F) (w := w) eok hpu
   have hzsz : eti.zv.cells.size = eti.size := eok.zsz
   have hble := Nat.le_of_ble_eq_true hble
   have hzero : CD F w (.ar n eti.ty) (List.replicate n eti.ty.dflt) (List.replicate n eti.zv.cells.toList).flatten := z1.replicate n
   have hcells0 : ((Array.range (n * eti.size)).map ((if n * eti.size = 0 then (#[] : Array Value) else eti.zv.cells)[· % (if n * eti.size = 0 then (#[] : Array Value) else eti.zv.cells).size]!)).toList = (List.replicate n eti.zv.cells.toList).flatten := by
     by_cases h0 : n * eti.size = 0
     · have : (List.replicate n eti.zv.cells.toList).flatten = [] := by
         apply List.eq_nil_of_length_eq_zero
         rw [hzero.len]
         simp only [Ty.sz, Ty.sh, Sh.sz]
         have : eti.ty.sh.sz = eti.size := z2
         rw [this]; exact h0
       rw [this]
       simp [h0]
     · have hpos : 0 < eti.zv.cells.toList.length := by
         rw [Array.length_toList, hzsz]
         exact Nat.pos_of_ne_zero (fun e => h0 (by rw [e]; simp))
       have := zero_rows eti.zv.cells.toList hpos n
       rw [← this]
       simp only [h0, if_false, Array.toList_map, Array.toList_range, Array.length_toList, hzsz, Array.toArray_toList]
   obtain ⟨e1, e2⟩ := h.evalP hl hn
   have hcr0 : CR E st.inf F w (.ar eti.ty n (List.replicate n eti.ty.dflt)) ((Array.range (n * eti.size)).map ((if n * eti.size = 0 then (#[] : Array Value) else eti.zv.cells)[· % (if n * eti.size = 0 then (#[] : Array Value) else eti.zv.cells).size]!)).toList := by
     rw [hcells0]; simp only [CR]; exact hzero
   obtain ⟨cells', r1, r2, r3⟩ := fillA_spec hfill hcr0 (fun i t off size hp' hs => by
     simp only [AV.sh, subSh] at hs ⊢
     split at hs <;> try (cases hs; done)
     rename_i hi
     injection hs with hs; subst hs
     injection hp' with hp'; injection hp' with hp' _; subst hp'
     have : eti.ty.sh.sz = eti.size := z2
     rw [← this]
     simpa using PathTo.arr hi (PathTo.here eti.ty.sh)) e1 e2
   simp only [AV.sh] at r3
   injection r3 with r3 r4
   subst r3
   simp only [CR] at r2
   have hxl : xs.length = m := by have := r2; simp only [CD] at this; exact this.1
   subst hxl
   have hsz' : cells'.size = xs.length * e.sz := by
     have := r2.len
     simp only [Ty.sz, Ty.sh, Sh.sz] at this
     simpa [Ty.sz] using this
   have hcd : CD F (w.alloc (.cells cells' ee)) (.ar xs.length e) xs (cells'.toList.take (xs.length * e.sz)) := by
     rw [List.take_of_length_le (by simp [hsz'])]
     exact r2.mono (fun b hb => ⟨hb, Go.RowKit.Below.heap_alloc w _ b (h.frz b hb)⟩)
   obtain ⟨g1, g2⟩ := new_own (E := E) (F := F) (st := st) (w := w) (nid := nid) (te := ee) (cap := xs.length) (e := e) (xs := xs) (cells := cells') (Nat.le_refl _) (by omega) hsz' hcd
   refine ⟨_, _, xs.length, ?_, g1, g2⟩
   have hsmall : ¬ xs.length * eti.size > 2 ^ 24 := by omega
   have hps : (ps.map fun (x : Nat × Operand) => (match x with | (i, x) => (i, a.eval x))).toList = (ps.toList.map fun p => (p.1, a.eval p.2)) := by
     rw [Array.toList_map]
   have hsm0 : ¬ (0 : Nat) > 2 ^ 24 := by omega
   by_cases h0 : xs.length * eti.size = 0
   · simp only [h0, if_true] at r1
     simp only [execOp, ho, Instr.buildSlice, Sem.run_bind, run_underlying hd, Result.andThen_ok, eok.run_sizeOf, hsm0, if_false, h0, if_true, Sem.run_pure, hps, r1, newRow, run_newObj]
     rfl
   · simp only [h0, if_false] at r1
     simp only [execOp, ho, Instr.buildSlice, Sem.run_bind, run_underlying hd, Result.andThen_ok, eok.run_sizeOf, hsmall, if_false, h0, eok.run_zeroValue, Sem.run_pure, hps, r1, newRow, run_newObj]
     rfl
 · rename_i T n m ho
   split at he <;> try (cases he; done)
   rename_i ti hti
   split at he <;> try (cases he; done)
   rename_i te hds
   split at he <;> try (cases he; done)
   rename_i eti n m heti hn hm
   split at he <;> try (cases he; done)
   rename_i hpu
   injection he with he; injection he with h1 h2; injection h2 with h2 h3; subst h1 h2 h3
   have ok := hX.tt _ _ hti
   have eok := hX.tt _ _ heti
   obtain ⟨d, hd, hdd⟩ := ok.under
   rw [hds] at hdd
   cases d <;> simp only [dsOf] at hdd <;> try (cases hdd; done)
   rename_i ee
   injection hdd with hdd; subst hdd
   obtain ⟨z1, z2⟩ := pure_zero (F := F) (w := w) eok hpu
   have hzsz : eti.zv.cells.size = eti.size := eok.zsz
   obtain ⟨p1, p2, p3, p4⟩ := hp
   have hnv := int_val (h.eval hn)
   have hmv := int_val (h.eval hm)
   obtain ⟨m, rfl⟩ := Int.eq_ofNat_of_zero_le (show 0 ≤ m by omega)
   obtain ⟨n, rfl⟩ := Int.eq_ofNat_of_zero_le p1
   have hnm : n ≤ m := by omega
   have hmb : m * eti.bytes ≤ 140737488355328 := by
     have h' : ((m * eti.bytes : Nat) : Int) ≤ 140737488355328 := by rw [Int.natCast_mul]; exact p3
     omega
   have hm4 : m ≤ 140737488355328 := by omega
   have hzero : CD F w (.ar m eti.ty) (List.replicate m eti.ty.dflt) (List.replicate m eti.zv.cells.toList).flatten := z1.replicate m
   have hcells0 : ((Array.range (m * eti.size)).map ((if m * eti.size = 0 then (#[] : Array Value) else eti.zv.cells)[· % (if m * eti.size = 0 then (#[] : Array Value) else eti.zv.cells).size]!)).toList = (List.replicate m eti.zv.cells.toList).flatten := by
     by_cases h0 : m * eti.size = 0
     · have : (List.replicate m eti.zv.cells.toList).flatten = [] := by
         apply List.eq_nil_of_length_eq_zero
         rw [hzero.len]
         simp only [Ty.sz, Ty.sh, Sh.sz]
         have : eti.ty.sh.sz = eti.size := z2
         rw [this]; exact h0
       rw [this]
       simp [h0]
     · have hpos : 0 < eti.zv.cells.toList.length := by
         rw [Array.length_toList, hzsz]
         exact Nat.pos_of_ne_zero (fun e => h0 (by rw [e]; simp))
       have := zero_rows eti.zv.cells.toList hpos m
       rw [← this]
       simp only [h0, if_false, Array.toList_map, Array.toList_range, Array.length_toList, hzsz, Array.toArray_toList]
   generalize hcs : ((Array.range (m * eti.size)).map ((if m * eti.size = 0 then (#[] : Array Value) else eti.zv.cells)[· % (if m * eti.size = 0 then (#[] : Array Value) else eti.zv.cells).size]!)) = cells at hcells0
   have hsz' : cells.size = m * eti.ty.sz := by
     rw [← Array.length_toList, hcells0, hzero.len]; rfl
   have hcd : CD F (w.alloc (.cells cells ee)) (.ar (List.replicate n eti.ty.dflt).length eti.ty) (List.replicate n eti.ty.dflt) (cells.toList.take ((List.replicate n eti.ty.dflt).length * eti.ty.sz)) := by
     have hb : ∀ b, F b → F b ∧ (w.alloc (.cells cells ee)).heap[b]? = w.heap[b]? := fun b hb => ⟨hb, Go.RowKit.Below.heap_alloc w _ b (h.frz b hb)⟩
     have h1 := (z1.replicate n).mono hb
     have h2 : cells.toList.take (n * eti.ty.sz) = (List.replicate n eti.zv.cells.toList).flatten := by
       rw [hcells0, show m = n + (m - n) by omega, ← List.replicate_append_replicate, List.flatten_append]
       have hl : (List.replicate n eti.zv.cells.toList).flatten.length = n * eti.ty.sz := (z1.replicate n).len
       rw [← hl, List.take_left]
     simp only [List.length_replicate, h2]
     simp only [CD] at h1 ⊢
     obtain ⟨a1, css, a2, a3, a4⟩ := h1
     exact ⟨trivial, css, by simp [a2], a3, a4⟩
   obtain ⟨g1, g2⟩ := new_own (E := E) (F := F) (st := st) (w := w) (nid := nid) (te := ee) (cap := m) (e := eti.ty) (xs := List.replicate n eti.ty.dflt) (cells := cells) (by simpa using hnm) hm4 hsz' hcd
   refine ⟨_, _, m, ?_, g1, g2⟩
   have hwn : IntKind.i64.wrap (n : Int) = n := wrap_inR (k := .i64) ⟨by omega, by omega⟩
   have hwm : IntKind.i64.wrap (m : Int) = m := wrap_inR (k := .i64) ⟨by omega, by omega⟩
   obtain ⟨i, hi1, hi2, hi3, hi4⟩ := eok.run_typeInfo (w := w)
   have hbig : ¬ ((i.bytes : Int) * (m : Int) > 2 ^ 48) := by
     rw [hi3]
     have : ((eti.bytes : Int) * (m : Int)) = ((m * eti.bytes : Nat) : Int) := by rw [Nat.mul_comm]; simp
     rw [this]
     omega
   have hng : ¬ ((m : Int) < 0) := by omega
   have hng2 : ¬ ((n : Int) < 0) := by omega
   have hng3 : ¬ ((n : Int) > (m : Int)) := by omega
   have hcond : (decide ((m : Int) < 0) || decide ((i.bytes : Int) * (m : Int) > 2 ^ 48) || decide ((n : Int) < 0) || decide ((n : Int) > (m : Int))) = false := by
     simp only [hng, hbig, hng2, hng3, decide_false, Bool.or_self]
   have hmt : ((m : Int)).toNat = m := rfl
   have hnt : ((n : Int)).toNat = n := rfl
   by_cases h0 : m * eti.size = 0
   · simp only [h0, if_true] at hcs
     simp only [execOp, ho, Instr.makeSlice, hnv, hmv, asInt, asIntOf, Sem.run_bind, run_underlying hd, Result.andThen_ok, Sem.run_pure, hi1, hwn, hwm, hcond, Bool.false_eq_true, if_false, run_askRoom, eok.run_sizeOf, hmt, hnt, h0, if_true, hcs, newRow, run_newObj, List.length_replicate]
     rfl
   · simp only [h0, if_false] at hcs
     simp only [execOp, ho, Instr.makeSlice, hnv, hmv, asInt, asIntOf, Sem.run_bind, run_underlying hd, Result.andThen_ok, Sem.run_pure, hi1, hwn, hwm, hcond, Bool.false_eq_true, if_false, run_askRoom, eok.run_sizeOf, hmt, hnt, h0, eok.run_zeroValue, hcs, newRow, run_newObj, List.length_replicate]
     rfl
 · cases he
end
end Go.Am

/- The abstract machine, part 12: stores; append; copy. -/
namespace Go.Am
open Go
section
variable {G : En} {E : Env} {F : Nat → Prop} {st : St} {a : Act} {w : World}
/-- The world has grown; what is new is left alone, and may be looked at. -/
theorem Rel.grown (h : Rel G E F st a w) {w' : World} (hg : w.grownBy w' none) (N : Nat → Prop) (hN : ∀ b, N b → w.heap.size ≤ b ∧ b < w'.heap.size) : Rel G E (fun b => F b ∨ N b) st a w' := by
 have hF : ∀ b, F b → (F b ∨ N b) ∧ w'.heap[b]? = w.heap[b]? := fun b hb => ⟨.inl hb, hg.block b (h.frz b hb) (by simp)⟩
 refine { defers := h.defers.mono hF, size := h.size, tms := ?_, obs := ?_, apart := ?_, inj := h.inj, frz := ?_, new := ?_, own := h.own, os := by rw [hg.os, h.os], tape := by rw [hg.tape, h.tape], output := by rw [hg.output, h.output], grow := Nat.le_trans h.grow hg.size, frame := ?_, glob := h.glob.mono hF, stay := h.stay, live0 := h.live0 }
 · intro i z hz
   exact (h.tms i z hz).mono hF (fun q v _ => Ag.refl _ _ _ v)
 · intro q z hz
   exact (h.obs q z hz).mono hF (fun r v _ => Ag.refl _ _ _ v) (fun hl => ⟨rfl, rfl, hg.block _ (h.apart q (by simp [St.live, St.inf, hz, hl])).2 (by simp)⟩)
 · intro q hq
   have := h.apart q hq
   refine ⟨fun hb => ?_, Nat.lt_of_lt_of_le this.2 hg.size⟩
   rcases hb with hb | hb
   · exact this.1 hb
   · have := (hN _ hb).1; omega
 · intro b hb
   rcases hb with hb | hb
   · exact Nat.lt_of_lt_of_le (h.frz b hb) hg.size
   · exact (hN b hb).2
 · intro b hb
   rcases hb with hb | hb
   · exact h.new b hb
   · right; exact Nat.le_trans h.grow (hN b hb).1
 · intro b hb' ho
   rw [hg.block b (Nat.lt_of_lt_of_le hb' h.grow) (by simp)]
   exact h.frame b hb' ho
/-- A new block becomes an object, others perhaps having been made beside it. -/
theorem Rel.newAt (h : Rel G E F st a w) {n : Nat} (hf : st.fresh n = true) (x : Ob) {w' : World} (g cap : Nat) (hg : w.grownBy w' none) (hb : w.heap.size ≤ g ∧ g < w'.heap.size)
   (hx : OR (E.set n g cap) (st.setO n x).inf F w' n x) : Rel G (E.set n g cap) F (st.setO n x) a w' := by
 obtain ⟨f1, f2, f3⟩ := St.fresh_spec hf
 have hF : ∀ b, F b → F b ∧ w'.heap[b]? = w.heap[b]? := fun b hb => ⟨hb, hg.block b (h.frz b hb) (by simp)⟩
 have hA : ∀ q v, q ≠ n → Ag E (E.set n g cap) st.inf (st.setO n x).inf q v := fun q v hq => by
   cases v with
   | none => simp [Ag, Env.set, hq]
   | some v => exact fun i hi _ => ⟨by rw [St.inf_setO] at hi; simpa [hq] using hi, by simp [Env.set, hq], by simp [Env.set, hq]⟩
 have hlive : ∀ q, (st.setO n x).live q → q ≠ n → st.live q := fun q hq hn => by
   simp only [St.live, St.inf_setO, hn, if_false] at hq; exact hq
 refine { defers := h.defers.mono hF, size := h.size, tms := ?_, obs := ?_, apart := ?_, inj := ?_, frz := ?_, new := h.new, own := ?_, os := by rw [hg.os, h.os], tape := by rw [hg.tape, h.tape], output := by rw [hg.output, h.output], grow := Nat.le_trans h.grow hg.size, frame := ?_, glob := h.glob.mono hF, stay := ?_, live0 := ?_ }
 · intro i y hy
   exact (h.tms i y hy).mono hF (fun q v hq => hA q v (fun e => by have hq := AV.names_of_has hq; rw [e] at hq; rw [f2 i y hy] at hq; cases hq))
 · intro q y hy
   by_cases hq : q = n
   · subst hq
     simp only [St.setO, setOb_get, if_true] at hy
     injection hy with hy; subst hy
     exact hx
   · simp only [St.setO, setOb_get, hq, if_false] at hy
     have hold : y = .gone ∨ st.ob[q]? = some y := by
       by_cases hlt : q < n
       · simp only [hlt, if_true] at hy
         injection hy with hy
         cases hl : st.ob[q]? with
         | none => left; rw [← hy]; simp [List.getD_eq_getElem?_getD, hl]
         | some z => right; rw [← hy]; simp [List.getD_eq_getElem?_getD, hl]
       · simp only [hlt, if_false] at hy
         exact .inr hy
     rcases hold with rfl | hold
     · trivial
     · refine (h.obs q y hold).mono hF (fun r v hr => hA r v (fun e => by have hr := Ob.names_of_has hr; rw [e] at hr; rw [f3 q y hold] at hr; cases hr)) (fun hl => ?_)
       have hlq : st.live q := by simp [St.live, St.inf, hold, hl]
       exact ⟨by simp [Env.set, hq], by simp [Env.set, hq], hg.block _ (h.apart q hlq).2 (by simp)⟩
 · intro q hq
   by_cases hn : q = n
   · subst hn
     simp only [Env.set, if_true]
     exact ⟨fun hb' => by have := h.frz _ hb'; omega, hb.2⟩
   · have := h.apart q (hlive q hq hn)
     simp only [Env.set, hn, if_false]
     exact ⟨this.1, Nat.lt_of_lt_of_le this.2 hg.size⟩
 · intro q q' hq hq' he
   by_cases hn : q = n <;> by_cases hn' : q' = n
   · rw [hn, hn']
   · have := (h.apart q' (hlive q' hq' hn')).2
     simp [Env.set, hn, hn'] at he; omega
   · have := (h.apart q (hlive q hq hn)).2
     simp [Env.set, hn, hn'] at he; omega
   · simp [Env.set, hn, hn'] at he
     exact h.inj q q' (hlive q hq hn) (hlive q' hq' hn') he
 · intro b hb'; exact Nat.lt_of_lt_of_le (h.frz b hb') hg.size
 · intro q hq
   by_cases hn : q = n
   · subst hn; left; simp [Env.set]; exact Nat.le_trans h.grow hb.1
   · have := h.own q (hlive q hq hn)
     simpa [Env.set, hn] using this
 · intro b hb' ho
   rw [hg.block b (Nat.lt_of_lt_of_le hb' h.grow) (by simp)]
   exact h.frame b hb' ho
 · intro q i hq hi h0
   have hqn : q ≠ n := fun e => by have := h.live0 q hq; rw [e, St.live, f1] at this; cases this
   rw [St.inf_setO, if_neg hqn] at hi
   simpa [Env.set, hqn] using h.stay q i hq hi h0
 · intro q hq
   have hqn : q ≠ n := fun e => by have := h.live0 q hq; rw [e, St.live, f1] at this; cases this
   have := h.live0 q hq
   simpa [St.live, St.inf_setO, hqn] using this
end
/-- The object with other content. -/
def withContent (x : Ob) (c : AV) : Option Ob :=
 match x with
 | .bx _ => some (.bx c)
 | .sc ver te _ _ => (match c with
   | .ar e _ xs => some (.sc ver te e xs)
   | _ => none)
 | _ => none
def effS (X : Cx) (gl : Nat → Option ((t : Ty) × t.D)) (st : St) (o : Oper) : Option (Nat × Ob × Prop) :=
 match o.op with
 | .store T x v => (match X.tt T, evalA gl st x, evalA gl st v with
   | some ti, some (.ptr q ver p), some v => (match content st q ver, st.ob[q]?, isTup v with
     | some c, some ob, false => (match getAt c p, setAt c p v with
       | some s, some c' => (match Sh.beq v.sh s.sh, Nat.beq ti.size s.sh.sz, withContent ob c' with
         | true, true, some ob' => some (q, ob', True)
         | _, _, _ => none)
       | _, _ => none)
     | _, _, _ => none)
   | _, _, _ => none)
 | _ => none
section
variable {X : Cx} {G : En} {E : Env} {F : Nat → Prop} {st : St} {a : Act} {w : World}
theorem CD.len_ar {n : Nat} {e : Ty} {xs : List e.D} {cs : List Value} (h : CD F w (.ar n e) xs cs) : xs.length = n := by
 simp only [CD] at h; exact h.1
theorem run_effS (hX : X.Ok) (h : Rel G E F st a w) {o : Oper} {q : Nat} {ob : Ob} {p : Prop} (he : effS X G.gl st o = some (q, ob, p)) :
   ∃ w', (execOp a.eval o).run X.P w = .ok .skip w' ∧ Rel G E F (st.setO q ob) a w' := by
 unfold effS at he
 split at he <;> try (cases he; done)
 rename_i T x v0 ho
 split at he <;> try (cases he; done)
 rename_i ti q' ver p' v hti hx hv
 split at he <;> try (cases he; done)
 rename_i c ob0 hc hob ht
 split at he <;> try (cases he; done)
 rename_i s c' hs hset
 split at he <;> try (cases he; done)
 rename_i ob' hb1 hb2 hwc
 injection he with he; injection he with h1 h2; injection h2 with h2 h3; subst h1 h2
 have ok := hX.tt _ _ hti
 have hb1 := Sh.eq_of_beq _ _ hb1
 have hb2 := Nat.eq_of_beq_eq_true hb2
 obtain ⟨obx, ho1, hi1, hI⟩ := content_spec hc
 rw [hob] at ho1
 injection ho1 with ho1; subst ho1
 obtain ⟨t, off, hpt, hptr⟩ := one_ptr (h.eval hx) hI
 obtain ⟨hv1, hv2⟩ := (h.eval hv).notup ht (evalA_dead hv)
 obtain ⟨cs, T', c0, rest, g1, g2, g3⟩ := h.content hc
 obtain ⟨q0, pre, mid, post, e1, e2, e3, e4⟩ := CR.path hs hpt g3
 obtain ⟨k1, k2⟩ := e4 v c' _ hset (by rw [hb1, q0]) hv1
 have hlv : (a.eval v0).cells.size = ti.size := by
   have := hv1.len
   rw [hb1, ← hb2] at this
   simpa using this
 have hrun := run_storeVar_seg ok (w := w) (off := off) (pre := pre) (mid := mid) (post := post ++ rest) (v := a.eval v0) g1 (by rw [g2, e1]; simp) e2 (by rw [e3.len, hb2]) hlv hv1.one
 have hsp := setRow_spec (w := w) (E.β q') cs (pre ++ ((a.eval v0).cells.toList ++ (post ++ rest))).toArray T' g1
 refine ⟨w.setRow (E.β q') (pre ++ ((a.eval v0).cells.toList ++ (post ++ rest))).toArray, ?_, ?_⟩
 · simp only [execOp, ho, Instr.storeAt, hptr, Instr.sureAddr, Sem.run_bind, Sem.run_pure, Result.andThen_ok]
   rw [hrun]
   rfl
 · obtain ⟨s1, s2, s3, s4, s5, s6⟩ := hsp
   have hinf : ob'.inf = ob0.inf ∧ OR E st.inf F (w.setRow (E.β q') (pre ++ ((a.eval v0).cells.toList ++ (post ++ rest))).toArray) q' ob' := by
     have hFk : ∀ b, F b → F b ∧ (w.setRow (E.β q') (pre ++ ((a.eval v0).cells.toList ++ (post ++ rest))).toArray).heap[b]? = w.heap[b]? := fun b hb =>
       ⟨hb, s6 b (fun e => (h.apart q' (by simp [St.live, hI])).1 (e ▸ hb))⟩
     have hc1 := CR.mono (E' := E) (I' := st.inf) hFk (fun q v _ => Ag.refl _ _ _ v) k1
     unfold withContent at hwc
     split at hwc
     · rename_i c1
       injection hwc with hwc; subst hwc
       have hcc : content st q' ver = some c1 ∧ ver = 0 := by
         unfold content
         rw [hob]
         simp only
         unfold content at hc
         rw [hob] at hc
         simp only at hc
         split at hc
         · rename_i hv0
           exact ⟨by simp [hv0], by simpa using hv0⟩
         · cases hc
       rw [hcc.1] at hc
       injection hc with hc; subst hc
       have hrest : rest = [] := by
         obtain ⟨cs', T'', z1, z2⟩ := h.obs _ _ hob
         rw [z1] at g1
         injection g1 with g1; injection g1 with g1 _ _; subst g1
         have l1 := z2.len
         have l2 := g3.len
         rw [g2] at l1
         simp at l1
         exact List.eq_nil_of_length_eq_zero (by omega)
       subst hrest
       refine ⟨by simp [Ob.inf, k2], ?_⟩
       refine ⟨_, T', s1, ?_⟩
       simpa using hc1
     · rename_i ver' te e0 xs0
       split at hwc <;> try (cases hwc; done)
       rename_i e' n' xs'
       injection hwc with hwc; subst hwc
       have hcc : c = .ar e0 xs0.length xs0 ∧ ver = ver' := by
         unfold content at hc
         rw [hob] at hc
         simp only at hc
         split at hc
         · rename_i hv0
           injection hc with hc
           exact ⟨hc.symm, by simpa using hv0⟩
         · cases hc
       obtain ⟨rfl, rfl⟩ := hcc
       simp only [AV.sh] at k2
       injection k2 with k2 k3
       subst k2
       simp only [CR] at hc1
       have hxl := hc1.len_ar
       have hlen : xs'.length = xs0.length := hxl
       refine ⟨by simp [Ob.inf, k3, hlen], ?_⟩
       obtain ⟨cs', z1, z2, z3, z4, z5, z6⟩ := h.obs _ _ hob
       rw [z1] at g1
       injection g1 with g1; injection g1 with g1 g1' _; subst g1; subst g1'
       have hesz : e'.sz = e0.sz := by simp only [Ty.sz, k3]
       have htot : (pre ++ ((a.eval v0).cells.toList ++ (post ++ rest))).length = cs'.size := by
         have l1 := e3.len
         have l2 := hv1.len
         rw [hb1] at l2
         have l3 := congrArg List.length g2
         rw [e1] at l3
         simp only [Array.length_toList, List.length_append] at l3 ⊢
         omega
       refine ⟨_, s1, by omega, z3, ?_, by omega, ?_⟩
       · simp only [List.size_toArray, htot, z4, hesz]
       · have hl := hc1.len
         simp only [Ty.sz, Ty.sh, Sh.sz] at hl
         have htk : ((pre ++ ((a.eval v0).cells.toList ++ (post ++ rest))).toArray.toList).take (xs'.length * e'.sz) = pre ++ ((a.eval v0).cells.toList ++ post) := by
           have : (pre ++ ((a.eval v0).cells.toList ++ (post ++ rest))) = (pre ++ ((a.eval v0).cells.toList ++ post)) ++ rest := by simp
           rw [List.toList_toArray, this]
           have hl' : (pre ++ ((a.eval v0).cells.toList ++ post)).length = xs'.length * e'.sz := by rw [hl, hlen]; rfl
           rw [← hl', List.take_left]
         rw [htk]
         simp only [CD] at hc1 ⊢
         obtain ⟨_, css, b2, b3, b4⟩ := hc1
         exact ⟨trivial, css, by omega, b3, b4⟩
     · cases hwc
   exact h.updOb hob (by rw [hi1]; rfl) hinf.1 s2 s3 s4 s5 s6 hinf.2
end
end Go.Am

/- The abstract machine, part 13: append. -/
namespace Go.Am
open Go
def srcL (st : St) (e : Ty) : AV → Option (List e.D)
 | .own o ver => (match scOf st o ver with
   | some r => castL r.2.1 e r.2.2
   | none => none)
 | .sl e' xs => castL e' e xs
 | .sub o ver p lo n => (match content st o ver with
   | some c => (match getAt c p with
     | some (.ar e' _ xs) => castL e' e ((xs.drop lo).take n)
     | _ => none)
   | none => none)
 | .vv (.slice none 0 0) => some []
 | _ => none
inductive AE
 | nw (ob : Ob) (v : AV)
 | mv (o : Nat) (ob : Ob) (v : AV)
 | vw (v : AV)
def sumPre (n m bytes : Nat) : Prop := (n + m) * bytes ≤ 140737488355328 ∧ n + m ≤ 140737488355328
def isNilA : AV → Bool
 | .vv (.slice none 0 0) => true
 | _ => false
def isOwn : AV → Bool
 | .own _ _ => true
 | _ => false
/-- A hint: nothing is appended. -/
def wrNil (X : Cx) (o : Oper) : Bool :=
 match o.dst with
 | some d => X.hs (d + 1000000)
 | none => false
def effA (X : Cx) (gl : Nat → Option ((t : Ty) × t.D)) (st : St) (nid : Nat) (o : Oper) : Option (AE × Prop) :=
 match o.op with
 | .call c => (match c.callee, c.argTypes.toList, c.args.toList with
   | .builtin .append, [T, T'], [s, x] => (match Nat.beq T T', X.tt T, evalA gl st s, evalA gl st x with
     | true, some ti, some d, some y => (match ti.ds with
       | .sl te => (match X.tt te with
         | some eti => (match eti.pure, nz eti.size, srcL st eti.ty y with
           | true, true, some ys => (match d with
             | .vv (.slice none 0 0) => (match isNilA y with
               | true => some (.vw (.vv (.slice none 0 0)), sumPre 0 ys.length eti.bytes)
               | false => (match wrOf X o, wrNil X o with
                 | true, _ => some (.nw (.sc 0 te eti.ty ys) (.own nid 0), ys ≠ [] ∧ sumPre 0 ys.length eti.bytes)
                 | false, true => some (.vw (.vv (.slice none 0 0)), ys = [] ∧ sumPre 0 ys.length eti.bytes)
                 | false, false => (match isOwn y with
                   | true => (match ys with
                     | z :: zs => some (.nw (.sc 0 te eti.ty (z :: zs)) (.own nid 0), sumPre 0 (z :: zs).length eti.bytes)
                     | [] => none)
                   | false => some (.vw (.sl eti.ty ys), sumPre 0 ys.length eti.bytes))))
             | .own q ver => (match scOf st q ver with
               | some r => (match Nat.beq te r.1, castL r.2.1 eti.ty r.2.2, st.noVer q (ver + 1) with
                 | true, some xs, true => some (.mv q (.sc (ver + 1) te eti.ty (xs ++ ys)) (.own q (ver + 1)), sumPre xs.length ys.length eti.bytes)
                 | _, _, _ => none)
               | none => none)
             | _ => none)
           | _, _, _ => none)
         | none => none)
       | _ => none)
     | _, _, _, _ => none)
   | _, _, _ => none)
 | _ => none
theorem CellsAt.append {w : World} {ad : Addr} {c1 c2 : List Value} (h1 : CellsAt w ad c1) (h2 : CellsAt w (ad.add c1.length) c2) : CellsAt w ad (c1 ++ c2) := by
 intro j hj
 by_cases h : j < c1.length
 · rw [h1 j h]; simp [List.getElem_append_left h]
 · have := h2 (j - c1.length) (by simp at hj; omega)
   rw [add_add] at this
   rw [show c1.length + (j - c1.length) = j by omega] at this
   rw [this]
   simp [List.getElem_append_right (Nat.le_of_not_lt h)]
theorem CD.cons {F : Nat → Prop} {w : World} {e : Ty} {x : e.D} {xs : List e.D} {n : Nat} {c1 c2 : List Value} (h1 : CD F w e x c1) (h2 : CD F w (.ar n e) xs c2) : CD F w (.ar (n + 1) e) (x :: xs) (c1 ++ c2) := by
 simp only [CD] at h2 ⊢
 obtain ⟨hl, css, hc, rfl, h⟩ := h2
 refine ⟨by simp [hl], c1 :: css, by simp [hc], by simp, fun i hi hi' => ?_⟩
 cases i with
 | zero => exact h1
 | succ i => exact h i (by simpa using hi) (by simpa using hi')
theorem CD.append {F : Nat → Prop} {w : World} {e : Ty} {xs ys : List e.D} {n m : Nat} {c1 c2 : List Value} (h1 : CD F w (.ar n e) xs c1) (h2 : CD F w (.ar m e) ys c2) : CD F w (.ar (n + m) e) (xs ++ ys) (c1 ++ c2) := by
 simp only [CD] at h1 h2 ⊢
 obtain ⟨hl1, css1, hc1, rfl, h1⟩ := h1
 obtain ⟨hl2, css2, hc2, rfl, h2⟩ := h2
 refine ⟨by simp [hl1, hl2], css1 ++ css2, by simp [hc1, hc2], by simp, fun i hi hi' => ?_⟩
 by_cases hlt : i < n
 · rw [List.getElem_append_left (by omega), List.getElem_append_left (by omega)]
   exact h1 i (by omega) (by omega)
 · simp only [List.length_append] at hi hi'
   rw [List.getElem_append_right (by omega), List.getElem_append_right (by omega)]
   have e1 : i - css1.length = i - xs.length := by omega
   simp only [e1]
   exact h2 (i - xs.length) (by omega) (by omega)
theorem join_cells {F : Nat → Prop} {w : World} {e : Ty} : ∀ {xs : List e.D} {ad : Addr}, (∀ i (h : i < xs.length), ∃ ecs, CD F w e xs[i] ecs ∧ CellsAt w (ad.add (i * e.sz)) ecs) →
   ∃ news, CD F w (.ar xs.length e) xs news ∧ CellsAt w ad news
 | [], ad, _ => ⟨[], by simp [CD], fun j hj => by simp at hj⟩
 | x :: xs, ad, h => by
   obtain ⟨c, hc, hat⟩ := h 0 (by simp)
   obtain ⟨news, h1, h2⟩ := join_cells (xs := xs) (ad := ad.add e.sz) (fun i hi => by
     obtain ⟨ecs, a1, a2⟩ := h (i + 1) (by simpa using hi)
     refine ⟨ecs, by simpa using a1, ?_⟩
     rw [add_add]
     rw [show e.sz + i * e.sz = (i + 1) * e.sz by rw [Nat.succ_mul]; omega]
     exact a2)
   refine ⟨c ++ news, ?_, ?_⟩
   · exact CD.cons hc h1
   · refine CellsAt.append (by simpa [Addr.add] using hat) ?_
     rw [hc.len]; exact h2
theorem CD.take_drop {F : Nat → Prop} {w : World} {e : Ty} {xs : List e.D} {n : Nat} {cs : List Value} (h : CD F w (.ar n e) xs cs) (lo k : Nat) (hk : lo + k ≤ n) :
   ∃ pre mid post, cs = pre ++ (mid ++ post) ∧ pre.length = lo * e.sz ∧ CD F w (.ar k e) ((xs.drop lo).take k) mid := by
 simp only [CD] at h
 obtain ⟨hl, css, hc, rfl, h⟩ := h
 have hel : ∀ i (hi : i < css.length), css[i].length = e.sz := fun i hi => (h i (by omega) hi).len
 refine ⟨(css.take lo).flatten, ((css.drop lo).take k).flatten, ((css.drop lo).drop k).flatten, ?_, ?_, ?_⟩
 · rw [← List.flatten_append, List.take_append_drop, ← List.flatten_append, List.take_append_drop]
 · exact flatten_length (by simp; omega) (fun i hi => by simp at hi; simpa using hel i (by omega))
 · simp only [CD]
   refine ⟨by simp; omega, (css.drop lo).take k, by simp; omega, rfl, fun i hi hi' => ?_⟩
   simp only [List.length_take, List.length_drop] at hi hi'
   simp only [List.getElem_take, List.getElem_drop]
   exact h (lo + i) (by omega) (by omega)
theorem cellsAt_block {w : World} {g off : Nat} {cs : Array Value} {T : TypeId} {fr : Nat × Nat} {pre mid post : List Value} (hg : w.heap[g]? = some (.cells cs T fr)) (hs : cs.toList = pre ++ (mid ++ post)) (hp : pre.length = off) :
   CellsAt w ⟨g, off, none⟩ mid := by
 intro j hj
 rw [Addr.add_lit, cell_of_row w g (off + j) cs T fr hg, ← Array.getElem?_toList, hs, List.getElem?_append_right (by omega), hp, Nat.add_sub_cancel_left, List.getElem?_append_left hj]
 simp [hj]
section
variable {X : Cx} {G : En} {E : Env} {F : Nat → Prop} {st : St} {a : Act} {w : World}
theorem srcL_spec (h : Rel G E F st a w) {e : Ty} {x : AV} {u : Value} {ys : List e.D} (hx : TR E st.inf F w x u) (hs : srcL st e x = some ys) :
   (∃ ad c news, u = .slice (some ad) ys.length c ∧ CD F w (.ar ys.length e) ys news ∧ CellsAt w ad news) ∨ (ys = [] ∧ ∃ c, u = .slice none 0 c) := by
 unfold srcL at hs
 split at hs
 · rename_i o ver
   split at hs <;> try (cases hs; done)
   rename_i r hr
   obtain ⟨ho, hI⟩ := scOf_spec hr
   obtain ⟨he, rfl⟩ := castL_some hs
   subst he
   have := one_own hx hI
   subst this
   obtain ⟨cs, g1, g2, g3, g4, g5, g6⟩ := h.obs _ _ ho
   refine .inl ⟨_, _, _, rfl, g6, ?_⟩
   exact cellsAt_block (pre := []) (post := cs.toList.drop (r.2.2.length * r.2.1.sz)) g1 (by simp) rfl
 · rename_i e' xs
   obtain ⟨he, rfl⟩ := castL_some hs
   subst he
   obtain ⟨A, c, rfl, hm, hel⟩ := one_sl hx
   cases A with
   | none =>
     have : xs = [] := by
       cases xs with
       | nil => rfl
       | cons y l => obtain ⟨ad, ecs, h1, _⟩ := hel 0 (by simp); cases h1
     subst this
     exact .inr ⟨rfl, c, rfl⟩
   | some ad =>
     obtain ⟨news, h1, h2⟩ := join_cells (F := F) (w := w) (xs := xs) (ad := ad) (fun i hi => by
       obtain ⟨ad', ecs, e1, _, e3, e4⟩ := hel i hi
       injection e1 with e1; subst e1
       exact ⟨ecs, e3, e4⟩)
     exact .inl ⟨ad, c, news, rfl, h1, h2⟩
 · rename_i o ver p lo n
   split at hs <;> try (cases hs; done)
   rename_i c hc
   split at hs <;> try (cases hs; done)
   rename_i e' m xs hg
   obtain ⟨he, rfl⟩ := castL_some hs
   subst he
   obtain ⟨ob, ho, hi, hI⟩ := content_spec hc
   obtain ⟨off', N, eS, hpa, hlo, q, cc, rfl, hq, hn⟩ := one_sub hx hI
   obtain ⟨cs, T', c0, rest, g1, g2, g3⟩ := h.content hc
   have hpt := hpa.arr hg g3
   obtain ⟨hsh, pre, mid, post, e1, e2, e3, _⟩ := CR.path hg hpt g3
   simp only [AV.sh] at hsh
   injection hsh with q1 q2
   subst q1 q2
   simp only [CR] at e3
   have hxl := e3.len_ar
   obtain ⟨pre', mid', post', f1, f2, f3⟩ := e3.take_drop lo n hlo
   have hlen : ((xs.drop lo).take n).length = n := by simp; omega
   refine .inl ⟨_, cc, mid', by rw [hlen], by rw [hlen]; exact f3, ?_⟩
   by_cases h0 : 0 < n
   · rw [hq h0]
     exact cellsAt_block (pre := pre ++ pre') (post := post' ++ (post ++ rest)) g1 (by rw [g2, e1, f1]; simp) (by simp [e2, f2]; rfl)
   · have : n = 0 := by omega
     subst this
     have hm0 : mid' = [] := by
       have := f3.len
       simp [Ty.sz, Ty.sh, Sh.sz] at this
       exact this
     subst hm0
     exact fun j hj => by simp at hj
 · injection hs with hs; subst hs
   have := one_cell hx rfl
   simp only [CR] at this
   have := this.1
   injection this with this _
   exact .inr ⟨rfl, 0, this⟩
 · cases hs
theorem run_append_none {P : Program} {t ty e : TypeId} {i : TypeInfo} (ht : P.underlying t = some (.slice e)) (hi : P.info? e = some i) (A : Option Addr) (n cap c : Nat) (hn : n ≤ cap) :
   (Builtin.append_ #[t, t] ty #[.slice A n cap, .slice none 0 c]).run P w = .ok (.slice A n cap) w := by
 cases A <;> simp [Builtin.append_, run_underlying ht, sizeOf, typeInfo, hi, Builtin.lenOf, Builtin.firstCells, hn, storeCells]
/-- append onto an owned row or nil, from any source. -/
theorem run_append_any {te T ty : TypeId} {eti : TI} (hu : X.P.underlying T = some (.slice te)) (ok : TI.Ok X.P te eti) (hp : eti.pure = true) (hz : eti.size ≠ 0) {v u : Value} {n : Nat} {c1 : List Value} {ys : List eti.ty.D}
   (hown : w.ownsRow 0 te eti.size v n c1)
   (hs : (∃ ad c news, u = .slice (some ad) ys.length c ∧ CD F w (.ar ys.length eti.ty) ys news ∧ CellsAt w ad news) ∨ (ys = [] ∧ ∃ c, u = .slice none 0 c))
   (hpre : sumPre n ys.length eti.bytes) :
   ∃ v' w' c2, (Builtin.append_ #[T, T] ty #[v, u]).run X.P w = .ok v' w' ∧ CD F w (.ar ys.length eti.ty) ys c2 ∧ w'.ownsRow 0 te eti.size v' (n + ys.length) (c1 ++ c2) ∧ w.grownBy w' v.ownBlock ∧
     (v' = .slice none 0 0 ↔ v = .slice none 0 0 ∧ ys.length = 0) ∧ (v'.ownBlock = v.ownBlock ∨ v'.ownBlock = some w.heap.size) := by
 obtain ⟨i, hi, hi1, hi2, hi3⟩ := ok.inf
 obtain ⟨z1, z2⟩ := pure_zero (F := F) (w := w) ok hp
 rcases hs with ⟨ad, c, news, rfl, hc, hat⟩ | ⟨rfl, c, rfl⟩
 · have hl : news.length = ys.length * eti.size := by rw [hc.len]; simp only [Ty.sz, Ty.sh, Sh.sz]; rw [← z2]; rfl
   obtain ⟨v', w', h1, h2, h3, h4, h5⟩ := run_append_own_at (P := X.P) w 0 T ty te i eti.zv eti.size eti.bytes hu hi hi3 hi1 hi2 ok.zsz (Nat.pos_of_ne_zero hz) v n c1 hown ad ys.length c news hl
     (fun j u hu => by obtain ⟨hj, rfl⟩ := List.getElem?_eq_some_iff.1 hu; exact hat j hj) hc.one (by simp only [maxLen]; have := hpre.2; omega) hpre.1 (Nat.zero_le _)
   exact ⟨v', w', news, h1, hc, h2, h3, h4, h5⟩
 · refine ⟨v, w, [], ?_, by simp [CD], by simpa using hown, ⟨rfl, rfl, rfl, Nat.le_refl _, fun _ _ _ => rfl⟩, by simp, .inl rfl⟩
   rcases hown.2 with ⟨rfl, _⟩ | ⟨g, cap, cur, rfl, _, _, hnc, _⟩
   · exact run_append_none hu hi none 0 0 c (Nat.le_refl _)
   · exact run_append_none hu hi _ n cap c hnc
theorem ownsRow_cells {w : World} {base te size n : Nat} {v : Value} {xs : List Value} (h : w.ownsRow base te size v n xs) (hv : v ≠ .slice none 0 0) :
   ∃ g cap cur, v = .slice (some ⟨g, 0, none⟩) n cap ∧ w.heap[g]? = some (.cells cur te (0, 0)) ∧ n ≤ cap ∧ cap ≤ maxLen ∧ cur.size = cap * size ∧ cur.toList.take (n * size) = xs := by
 rcases h.2 with ⟨h1, _⟩ | ⟨g, cap, cur, h1, _, h2, h3, h4, h5, h6⟩
 · exact absurd h1 hv
 · exact ⟨g, cap, cur, h1, h2, h3, h4, h5, h6⟩
end
end Go.Am

/- The abstract machine, part 14: append and copy, in a state. -/
namespace Go.Am
open Go
/-- The state behind an append. -/
def AE.st (e : AE) (st : St) (nid : Nat) : St :=
 match e with
 | .nw ob _ => st.setO nid ob
 | .mv o ob _ => st.setO o ob
 | .vw _ => st
def AE.val : AE → AV
 | .nw _ v => v
 | .mv _ _ v => v
 | .vw v => v
section
variable {X : Cx} {G : En} {E : Env} {F : Nat → Prop} {st : St} {a : Act} {w : World}
theorem ownsRow_nil' (w : World) (te size : Nat) : w.ownsRow 0 te size (.slice none 0 0) 0 [] := ⟨by simp, .inl ⟨rfl, rfl⟩⟩
theorem sz_of_pure {te : TypeId} {eti : TI} (ok : TI.Ok X.P te eti) (hp : eti.pure = true) : eti.ty.sz = eti.size := (pure_zero (F := fun _ => False) (w := (default : World)) ok hp).2
theorem CD.mono_len {F : Nat → Prop} {w : World} {n m : Nat} {e : Ty} {xs : List e.D} {cs : List Value} (h : CD F w (.ar n e) xs cs) (hm : n = m) : CD F w (.ar m e) xs cs := by
 subst hm; exact h
theorem run_effA (hX : X.Ok) (h : Rel G E F st a w) {nid : Nat} {o : Oper} {e : AE} {p : Prop} (hf : st.fresh nid = true) (he : effA X G.gl st nid o = some (e, p)) (hp : p) :
   ∃ r w' E' F', (execOp a.eval o).run X.P w = .ok (.value r) w' ∧ Rel G E' F' (e.st st nid) a w' ∧ TR E' (e.st st nid).inf F' w' e.val r := by
 unfold effA at he
 split at he <;> try (cases he; done)
 rename_i c ho
 split at he <;> try (cases he; done)
 rename_i T T' s x hcal hat hargs
 split at he <;> try (cases he; done)
 rename_i ti d y hTT hti hd hy
 split at he <;> try (cases he; done)
 rename_i te hds
 split at he <;> try (cases he; done)
 rename_i eti heti
 split at he <;> try (cases he; done)
 rename_i ys hpu hnz hys
 have hTT := Nat.eq_of_beq_eq_true hTT
 subst hTT
 have ok := hX.tt _ _ hti
 have eok := hX.tt _ _ heti
 obtain ⟨dd, hdu, hdd⟩ := ok.under
 rw [hds] at hdd
 cases dd <;> simp only [dsOf] at hdd <;> try (cases hdd; done)
 rename_i ee
 injection hdd with hdd; subst hdd
 have hnz := nz_spec hnz
 have hz2 := sz_of_pure eok hpu
 have hsrc := srcL_spec h (h.eval hy) hys
 have harr : c.args = #[s, x] := by rw [← Array.toArray_toList (xs := c.args), hargs]
 have hatt : c.argTypes = #[T, T] := by rw [← Array.toArray_toList (xs := c.argTypes), hat]
 have hexec : ∀ r w', (Builtin.append_ #[T, T] o.type #[a.eval s, a.eval x]).run X.P w = .ok r w' → (execOp a.eval o).run X.P w = .ok (.value r) w' := by
   intro r w' hr
   simp only [execOp, ho, resolve, hcal, Sem.run_bind, Sem.run_pure, Result.andThen_ok, invoke, builtin, harr, hatt, List.map_toArray, List.map_cons, List.map_nil, hr]
 split at he
 · -- onto nil
   have hsv := one_cell (h.eval hd) rfl
   simp only [CR] at hsv
   have hsv := hsv.1
   injection hsv with hsv _
   have nil : ys = [] → sumPre 0 ys.length eti.bytes → e = .vw (.vv (.slice none 0 0)) → ∃ r w' E' F', (execOp a.eval o).run X.P w = .ok (.value r) w' ∧ Rel G E' F' (e.st st nid) a w' ∧ TR E' (e.st st nid).inf F' w' e.val r := fun hy0 hp he => by
     subst he hy0
     obtain ⟨v', w', c2, r1, r2, r3, r4, r5, r6⟩ := run_append_any (w := w) (ty := o.type) hdu eok hpu hnz (ownsRow_nil' w ee eti.size) hsrc hp
     have hgn : w.grownBy w' none := by simpa [Value.ownBlock] using r4
     refine ⟨v', w', E, fun b => F b ∨ False, hexec _ _ (by rw [hsv]; exact r1), h.grown hgn _ (fun b hb => hb.elim), ?_⟩
     rw [r5.2 ⟨rfl, by simp⟩]
     exact ⟨by simp [CR, AE.val, Value.cells, Value.oneCell'], by simp [Shaped, AV.isAgg, AE.val, Value.cells]⟩
   have own : ys ≠ [] → sumPre 0 ys.length eti.bytes → e = .nw (.sc 0 ee eti.ty ys) (.own nid 0) → ∃ r w' E' F', (execOp a.eval o).run X.P w = .ok (.value r) w' ∧ Rel G E' F' (e.st st nid) a w' ∧ TR E' (e.st st nid).inf F' w' e.val r := fun hne hp he => by
     subst he
     obtain ⟨v', w', c2, r1, r2, r3, r4, r5, r6⟩ := run_append_any (w := w) (ty := o.type) hdu eok hpu hnz (ownsRow_nil' w ee eti.size) hsrc hp
     have hv' : v' ≠ .slice none 0 0 := fun e => hne (List.length_eq_zero_iff.mp (r5.1 e).2)
     obtain ⟨g, cap, cur, e1, e2, e3, e4, e5, e6⟩ := ownsRow_cells r3 hv'
     have hg0 : g = w.heap.size := by
       rcases r6 with r6 | r6
       · rw [e1] at r6; simp [Value.ownBlock] at r6
       · rw [e1] at r6; simpa [Value.ownBlock] using r6
     have hlt : g < w'.heap.size := (Array.getElem?_eq_some_iff.1 e2).1
     have hgn : w.grownBy w' none := by simpa [Value.ownBlock] using r4
     have hF : ∀ b, F b → F b ∧ w'.heap[b]? = w.heap[b]? := fun b hb => ⟨hb, hgn.block b (h.frz b hb) (by simp)⟩
     simp only [Nat.zero_add, List.nil_append] at e1 e3 e6
     have hor : OR (E.set nid g cap) (st.setO nid (.sc 0 ee eti.ty ys)).inf F w' nid (.sc 0 ee eti.ty ys) := by
       refine ⟨cur, by simp only [Env.set, if_true]; exact e2, by simpa [Env.set] using e3, by simpa [Env.set] using e4, by simpa [Env.set, hz2] using e5, by have := hp.2; omega, ?_⟩
       rw [hz2, e6]
       exact r2.mono hF
     refine ⟨v', w', E.set nid g cap, F, hexec _ _ (by rw [hsv]; exact r1), ?_, ?_⟩
     · exact h.newAt hf _ g cap hgn ⟨by omega, hlt⟩ hor
     · have := TR.own (E := E.set nid g cap) (F := F) (w := w') (o := nid) (ver := 0) (n := ys.length) (e := eti.ty.sh) (I := (st.setO nid (.sc 0 ee eti.ty ys)).inf) (by rw [St.inf_setO, if_pos rfl]; rfl)
       rw [e1]
       simpa [Env.set, AE.val, AE.st] using this
   split at he
   · rename_i hny
     injection he with he; injection he with h1 h2; subst h1 h2
     have hy0 : ys = [] := by
       unfold isNilA at hny
       split at hny
       · simp only [srcL] at hys
         injection hys with hys; exact hys.symm
       · cases hny
     exact nil hy0 hp rfl
   split at he
   · injection he with he; injection he with h1 h2; subst h1 h2
     exact own hp.1 hp.2 rfl
   · injection he with he; injection he with h1 h2; subst h1 h2
     exact nil hp.1 hp.2 rfl
   split at he
   · split at he <;> try (cases he; done)
     injection he with he; injection he with h1 h2; subst h1 h2
     exact own (by simp) hp rfl
   · injection he with he; injection he with h1 h2; subst h1 h2
     obtain ⟨v', w', c2, r1, r2, r3, r4, r5, r6⟩ := run_append_any (w := w) (ty := o.type) hdu eok hpu hnz (ownsRow_nil' w ee eti.size) hsrc hp
     have hgn : w.grownBy w' none := by simpa [Value.ownBlock] using r4
     refine ⟨v', w', E, fun b => F b ∨ (w.heap.size ≤ b ∧ b < w'.heap.size), hexec _ _ (by rw [hsv]; exact r1), ?_, ?_⟩
     · exact h.grown hgn _ (fun b hb => hb)
     · have hF : ∀ b, F b → (F b ∨ (w.heap.size ≤ b ∧ b < w'.heap.size)) ∧ w'.heap[b]? = w.heap[b]? := fun b hb => ⟨.inl hb, hgn.block b (h.frz b hb) (by simp)⟩
       by_cases hv' : v' = .slice none 0 0
       · have h0 := (r5.1 hv').2
         have : ys = [] := List.eq_nil_of_length_eq_zero h0
         subst this
         rw [hv']
         exact TR.sl (A := none) (c := 0) ⟨by simp, by simp⟩ (fun i hi => by simp at hi)
       · obtain ⟨g, cap, cur, e1, e2, e3, e4, e5, e6⟩ := ownsRow_cells r3 hv'
         have hg0 : g = w.heap.size := by
           rcases r6 with r6 | r6
           · rw [e1] at r6; simp [Value.ownBlock] at r6
           · rw [e1] at r6; simpa [Value.ownBlock] using r6
         have hlt : g < w'.heap.size := (Array.getElem?_eq_some_iff.1 e2).1
         simp only [Nat.zero_add, List.nil_append] at e1 e3 e6
         rw [e1]
         have hcd := r2.mono hF
         refine TR.sl (A := some ⟨g, 0, none⟩) ⟨by omega, by have := hp.2; omega⟩ (fun i hi => ?_)
         obtain ⟨pre, mid, post, f1, f2, f3, _⟩ := hcd.ar_split hi
         refine ⟨⟨g, 0, none⟩, mid, rfl, .inr ⟨by simp; omega, hlt⟩, ?_, ?_⟩
         · have hgd : ys.getD i eti.ty.dflt = ys[i] := by simp [List.getD_eq_getElem?_getD, hi]
           rw [← hgd]; exact f3
         · rw [Addr.add_lit, Nat.zero_add]
           have hcur : cur.toList = pre ++ (mid ++ (post ++ cur.toList.drop (ys.length * eti.size))) := by
             have : cur.toList = c2 ++ cur.toList.drop (ys.length * eti.size) := by rw [← e6, List.take_append_drop]
             refine this.trans ?_
             rw [f1]
             simp only [List.append_assoc]
           exact cellsAt_block e2 hcur f2
 · rename_i q ver
   split at he <;> try (cases he; done)
   rename_i r hr
   split at he <;> try (cases he; done)
   rename_i xs hte hcast hnv
   injection he with he; injection he with h1 h2; subst h1 h2
   have hte := Nat.eq_of_beq_eq_true hte
   obtain ⟨hob, hI⟩ := scOf_spec hr
   obtain ⟨rte, re, rxs⟩ := r
   simp only at hte hcast hob hI
   subst hte
   obtain ⟨hce, hcx⟩ := castL_some hcast
   subst hce
   simp only at hcx
   subst hcx
   have hsv := one_own (h.eval hd) hI
   obtain ⟨cs, g1, g2, g3, g4, g5, g6⟩ := h.obs _ _ hob
   have hown : w.ownsRow 0 ee eti.size (.slice (some ⟨E.β q, 0, none⟩) xs.length (E.cap q)) xs.length (cs.toList.take (xs.length * eti.ty.sz)) := by
     refine ⟨?_, .inr ⟨E.β q, E.cap q, cs, rfl, Nat.zero_le _, g1, g2, g3, by rw [← hz2]; exact g4, by rw [hz2]⟩⟩
     rw [g6.len]; simp only [Ty.sz, Ty.sh, Sh.sz]; rw [← hz2]; rfl
   obtain ⟨v', w', c2, r1, r2, r3, r4, r5, r6⟩ := run_append_any (w := w) (ty := o.type) hdu eok hpu hnz hown hsrc hp
   have hv' : v' ≠ .slice none 0 0 := fun e => by have := (r5.1 e).1; cases this
   obtain ⟨g, cap, cur, e1, e2, e3, e4, e5, e6⟩ := ownsRow_cells r3 hv'
   have hgn : w.grownBy w' (some (E.β q)) := by simpa [Value.ownBlock] using r4
   have hlt : g < w'.heap.size := (Array.getElem?_eq_some_iff.1 e2).1
   have hgb : g = E.β q ∨ (w.heap.size ≤ g ∧ g < w'.heap.size) := by
     rcases r6 with r6 | r6
     · left; rw [e1] at r6; simpa [Value.ownBlock] using r6
     · right; rw [e1] at r6; simp [Value.ownBlock] at r6; omega
   have hlq : st.live q := by simp [St.live, hI]
   have hF : ∀ b, F b → F b ∧ w'.heap[b]? = w.heap[b]? := fun b hb' => ⟨hb', hgn.block b (h.frz b hb') (fun e => by injection e with e; exact (h.apart q hlq).1 (e ▸ hb'))⟩
   have hlen : (xs ++ ys).length = xs.length + ys.length := by simp
   have hor : OR (E.set q g cap) (st.setO q (.sc (ver + 1) ee eti.ty (xs ++ ys))).inf F w' q (.sc (ver + 1) ee eti.ty (xs ++ ys)) := by
     refine ⟨cur, by simp only [Env.set, if_true]; exact e2, by simp only [Env.set, if_true]; omega, by simpa [Env.set] using e4, by simpa [Env.set, hz2] using e5, by have := hp.2; omega, ?_⟩
     rw [hlen, hz2, e6]
     have := (CD.append g6 r2).mono hF
     simp only [CD] at this ⊢
     obtain ⟨_, css, b2, b3, b4⟩ := this
     exact ⟨by simp, css, by omega, b3, b4⟩
   refine ⟨v', w', E.set q g cap, F, hexec _ _ (by rw [hsv]; exact r1), ?_, ?_⟩
   · exact h.moveOb (ver := ver + 1) hob rfl (fun i hi => by simp [Ob.inf] at hi; rw [← hi]) rfl hnv (Nat.succ_ne_zero _) hgn hgb hlt hor
   · have := TR.own (E := E.set q g cap) (F := F) (w := w') (o := q) (ver := ver + 1) (n := (xs ++ ys).length) (e := eti.ty.sh) (I := (st.setO q (.sc (ver + 1) ee eti.ty (xs ++ ys))).inf) (by rw [St.inf_setO, if_pos rfl]; rfl)
     rw [e1, ← hlen]
     simpa [Env.set, AE.val, AE.st] using this
 · cases he
end
end Go.Am
