/- Part B3 of the proof that the law named in the last file returns true at every input and leaves its arguments as they were; no condition of its own. -/
import Derived.Test.YtfpoonbcnabihaaA2
import Derived.Test.YtfpoonbcnabihaaProg
import Derived.KernelRfl
import Derived.Test.YtfpoonbcnabihaaA0
set_option linter.unusedSimpArgs false
set_option linter.unusedVariables false
/- Shells: the program's types. Printed by tytab.py, beside the head. -/
namespace Go.Am.Sh
open Go Go.Am Go.Proofs
def AllOk (P : Program) : Nat -> List (Option TI) -> Prop
 | _, [] => True
 | i, none :: l => AllOk P (i + 1) l
 | i, some ti :: l => TI.Ok P i ti /\ AllOk P (i + 1) l
theorem AllOk.get {P : Program} : ∀ {l : List (Option TI)} {i j : Nat} {ti : TI}, AllOk P i l -> l[j]? = some (some ti) -> TI.Ok P (i + j) ti
 | [], i, j, ti, _, h => by simp at h
 | none :: l, i, 0, ti, _, h => by simp at h
 | some t :: l, i, 0, ti, h, hj => by simp at hj; subst hj; exact h.1
 | none :: l, i, j + 1, ti, h, hj => by
   have := AllOk.get (l := l) (i := i + 1) (j := j) h (by simpa using hj)
   rwa [show i + (j + 1) = i + 1 + j by omega]
 | some t :: l, i, j + 1, ti, h, hj => by
   have := AllOk.get (l := l) (i := i + 1) (j := j) h.2 (by simpa using hj)
   rwa [show i + (j + 1) = i + 1 + j by omega]
def ti1 : TI := ⟨.oth, 1, 8, Value.nilFunc, .vv .nilFunc, .bool, false, false⟩
theorem ti1_ok : TI.Ok Try.prog 1 ti1 := ⟨by kernel_rfl, by kernel_rfl, by kernel_rfl, by kernel_rfl, by kernel_rfl, by kernel_rfl, (fun h => nomatch h), (fun h => nomatch h)⟩
def ti2 : TI := ⟨.int .i64, 1, 8, Value.int IntKind.i64 0, .int .i64 0, .int .i64, true, true⟩
theorem ti2_ok : TI.Ok Try.prog 2 ti2 := ⟨by kernel_rfl, by kernel_rfl, by kernel_rfl, by kernel_rfl, by kernel_rfl, by kernel_rfl, fun _ => by kernel_rfl, fun _ => by kernel_rfl⟩
def ti3 : TI := ⟨.int .i64, 1, 8, Value.int IntKind.i64 0, .int .i64 0, .int .i64, true, true⟩
theorem ti3_ok : TI.Ok Try.prog 3 ti3 := ⟨by kernel_rfl, by kernel_rfl, by kernel_rfl, by kernel_rfl, by kernel_rfl, by kernel_rfl, fun _ => by kernel_rfl, fun _ => by kernel_rfl⟩
def ti4 : TI := ⟨.bool, 1, 1, Value.bool false, .ff, .bool, true, true⟩
theorem ti4_ok : TI.Ok Try.prog 4 ti4 := ⟨by kernel_rfl, by kernel_rfl, by kernel_rfl, by kernel_rfl, by kernel_rfl, by kernel_rfl, fun _ => by kernel_rfl, fun _ => by kernel_rfl⟩
def ti5 : TI := ⟨.int .u8, 1, 1, Value.int IntKind.u8 0, .int .u8 0, .int .u8, true, true⟩
theorem ti5_ok : TI.Ok Try.prog 5 ti5 := ⟨by kernel_rfl, by kernel_rfl, by kernel_rfl, by kernel_rfl, by kernel_rfl, by kernel_rfl, fun _ => by kernel_rfl, fun _ => by kernel_rfl⟩
def ti6 : TI := ⟨.int .u8, 1, 1, Value.int IntKind.u8 0, .int .u8 0, .int .u8, true, true⟩
theorem ti6_ok : TI.Ok Try.prog 6 ti6 := ⟨by kernel_rfl, by kernel_rfl, by kernel_rfl, by kernel_rfl, by kernel_rfl, by kernel_rfl, fun _ => by kernel_rfl, fun _ => by kernel_rfl⟩
def ti8 : TI := ⟨.st [(0, 2), (1, 3), (2, 4), (3, 6)], 4, 24, Value.agg #[Value.int IntKind.i64 0, Value.int IntKind.i64 0, Value.bool false, Value.int IntKind.u8 0], .agg [.int .i64 0, .int .i64 0, .ff, .int .u8 0], .s4 (.int .i64) (.int .i64) (.bool) (.int .u8), true, false⟩
theorem ti8_ok : TI.Ok Try.prog 8 ti8 := ⟨by kernel_rfl, by kernel_rfl, by kernel_rfl, by kernel_rfl, by kernel_rfl, by kernel_rfl, fun _ => by kernel_rfl, (fun h => nomatch h)⟩
def ti22 : TI := ⟨.sl 3, 1, 24, Value.slice none 0 0, .vv (.slice none 0 0), .sl (.int .i64), true, false⟩
theorem ti22_ok : TI.Ok Try.prog 22 ti22 := ⟨by kernel_rfl, by kernel_rfl, by kernel_rfl, by kernel_rfl, by kernel_rfl, by kernel_rfl, fun _ => by kernel_rfl, (fun h => nomatch h)⟩
def ti25 : TI := ⟨.int .i64, 1, 8, Value.int IntKind.i64 0, .int .i64 0, .int .i64, true, true⟩
theorem ti25_ok : TI.Ok Try.prog 25 ti25 := ⟨by kernel_rfl, by kernel_rfl, by kernel_rfl, by kernel_rfl, by kernel_rfl, by kernel_rfl, fun _ => by kernel_rfl, fun _ => by kernel_rfl⟩
def ti30 : TI := ⟨.oth, 1, 8, Value.nilFunc, .vv .nilFunc, .bool, false, false⟩
theorem ti30_ok : TI.Ok Try.prog 30 ti30 := ⟨by kernel_rfl, by kernel_rfl, by kernel_rfl, by kernel_rfl, by kernel_rfl, by kernel_rfl, (fun h => nomatch h), (fun h => nomatch h)⟩
def ti32 : TI := ⟨.oth, 1, 8, Value.nilFunc, .vv .nilFunc, .bool, false, false⟩
theorem ti32_ok : TI.Ok Try.prog 32 ti32 := ⟨by kernel_rfl, by kernel_rfl, by kernel_rfl, by kernel_rfl, by kernel_rfl, by kernel_rfl, (fun h => nomatch h), (fun h => nomatch h)⟩
def ti38 : TI := ⟨.int .u64, 1, 8, Value.int IntKind.u64 0, .int .u64 0, .int .u64, true, true⟩
theorem ti38_ok : TI.Ok Try.prog 38 ti38 := ⟨by kernel_rfl, by kernel_rfl, by kernel_rfl, by kernel_rfl, by kernel_rfl, by kernel_rfl, fun _ => by kernel_rfl, fun _ => by kernel_rfl⟩
def ti50 : TI := ⟨.sl 22, 1, 24, Value.slice none 0 0, .vv (.slice none 0 0), .sl (.sl (.int .i64)), true, false⟩
theorem ti50_ok : TI.Ok Try.prog 50 ti50 := ⟨by kernel_rfl, by kernel_rfl, by kernel_rfl, by kernel_rfl, by kernel_rfl, by kernel_rfl, fun _ => by kernel_rfl, (fun h => nomatch h)⟩
def ti56 : TI := ⟨.sl 62, 1, 24, Value.slice none 0 0, .vv (.slice none 0 0), .sl (.a2 (.int .i64)), true, false⟩
theorem ti56_ok : TI.Ok Try.prog 56 ti56 := ⟨by kernel_rfl, by kernel_rfl, by kernel_rfl, by kernel_rfl, by kernel_rfl, by kernel_rfl, fun _ => by kernel_rfl, (fun h => nomatch h)⟩
def ti62 : TI := ⟨.ar 2 3, 2, 16, Value.agg #[Value.int IntKind.i64 0, Value.int IntKind.i64 0], ofD (.a2 (.int .i64)) (Ty.dflt (.a2 (.int .i64))), .a2 (.int .i64), true, true⟩
theorem ti62_ok : TI.Ok Try.prog 62 ti62 := ⟨by kernel_rfl, by kernel_rfl, by kernel_rfl, by kernel_rfl, by kernel_rfl, by kernel_rfl, fun _ => by kernel_rfl, fun _ => by kernel_rfl⟩
def ti64 : TI := ⟨.oth, 1, 8, Value.nilFunc, .vv .nilFunc, .bool, false, false⟩
theorem ti64_ok : TI.Ok Try.prog 64 ti64 := ⟨by kernel_rfl, by kernel_rfl, by kernel_rfl, by kernel_rfl, by kernel_rfl, by kernel_rfl, (fun h => nomatch h), (fun h => nomatch h)⟩
def ti66 : TI := ⟨.pt 74, 1, 8, Value.pointer none, .vv (.pointer none), .bool, false, false⟩
theorem ti66_ok : TI.Ok Try.prog 66 ti66 := ⟨by kernel_rfl, by kernel_rfl, by kernel_rfl, by kernel_rfl, by kernel_rfl, by kernel_rfl, (fun h => nomatch h), (fun h => nomatch h)⟩
def ti69 : TI := ⟨.mp 3 4, 1, 8, Value.map none, .vv (.map none), .bool, false, false⟩
theorem ti69_ok : TI.Ok Try.prog 69 ti69 := ⟨by kernel_rfl, by kernel_rfl, by kernel_rfl, by kernel_rfl, by kernel_rfl, by kernel_rfl, (fun h => nomatch h), (fun h => nomatch h)⟩
def ti70 : TI := ⟨.oth, 1, 8, Value.nilFunc, .vv .nilFunc, .bool, false, false⟩
theorem ti70_ok : TI.Ok Try.prog 70 ti70 := ⟨by kernel_rfl, by kernel_rfl, by kernel_rfl, by kernel_rfl, by kernel_rfl, by kernel_rfl, (fun h => nomatch h), (fun h => nomatch h)⟩
def ti72 : TI := ⟨.ar 64 4, 64, 64, Value.agg #[Value.bool false, Value.bool false, Value.bool false, Value.bool false, Value.bool false, Value.bool false, Value.bool false, Value.bool false, Value.bool false, Value.bool false, Value.bool false, Value.bool false, Value.bool false, Value.bool false, Value.bool false, Value.bool false, Value.bool false, Value.bool false, Value.bool false, Value.bool false, Value.bool false, Value.bool false, Value.bool false, Value.bool false, Value.bool false, Value.bool false, Value.bool false, Value.bool false, Value.bool false, Value.bool false, Value.bool false, Value.bool false, Value.bool false, Value.bool false, Value.bool false, Value.bool false, Value.bool false, Value.bool false, Value.bool false, Value.bool false, Value.bool false, Value.bool false, Value.bool false, Value.bool false, Value.bool false, Value.bool false, Value.bool false, Value.bool false, Value.bool false, Value.bool false, Value.bool false, Value.bool false, Value.bool false, Value.bool false, Value.bool false, Value.bool false, Value.bool false, Value.bool false, Value.bool false, Value.bool false, Value.bool false, Value.bool false, Value.bool false, Value.bool false], ofD (.ar 64 (.bool)) (Ty.dflt (.ar 64 (.bool))), .ar 64 (.bool), true, true⟩
theorem ti72_ok : TI.Ok Try.prog 72 ti72 := ⟨by kernel_rfl, by kernel_rfl, by kernel_rfl, by kernel_rfl, by kernel_rfl, by kernel_rfl, fun _ => by kernel_rfl, fun _ => by kernel_rfl⟩
def ti74 : TI := ⟨.st [(0, 3), (1, 22), (2, 72)], 66, 96, Value.agg ([Value.int IntKind.i64 0, Value.slice none 0 0, Value.bool false, Value.bool false, Value.bool false, Value.bool false, Value.bool false, Value.bool false, Value.bool false, Value.bool false, Value.bool false, Value.bool false, Value.bool false, Value.bool false, Value.bool false, Value.bool false, Value.bool false, Value.bool false, Value.bool false, Value.bool false, Value.bool false, Value.bool false, Value.bool false, Value.bool false, Value.bool false, Value.bool false, Value.bool false, Value.bool false, Value.bool false, Value.bool false, Value.bool false, Value.bool false, Value.bool false].append [Value.bool false, Value.bool false, Value.bool false, Value.bool false, Value.bool false, Value.bool false, Value.bool false, Value.bool false, Value.bool false, Value.bool false, Value.bool false, Value.bool false, Value.bool false, Value.bool false, Value.bool false, Value.bool false, Value.bool false, Value.bool false, Value.bool false, Value.bool false, Value.bool false, Value.bool false, Value.bool false, Value.bool false, Value.bool false, Value.bool false, Value.bool false, Value.bool false, Value.bool false, Value.bool false, Value.bool false, Value.bool false, Value.bool false]).toArray, .agg [.int .i64 0, .vv (.slice none 0 0), ofD (.ar 64 (.bool)) (Ty.dflt (.ar 64 (.bool)))], .s3 (.int .i64) (.sl (.int .i64)) (.ar 64 (.bool)), true, false⟩
theorem ti74_ok : TI.Ok Try.prog 74 ti74 := ⟨by kernel_rfl, by kernel_rfl, by kernel_rfl, by kernel_rfl, by kernel_rfl, by kernel_rfl, fun _ => by kernel_rfl, (fun h => nomatch h)⟩
def ti75 : TI := ⟨.sl 4, 1, 24, Value.slice none 0 0, .vv (.slice none 0 0), .sl (.bool), true, false⟩
theorem ti75_ok : TI.Ok Try.prog 75 ti75 := ⟨by kernel_rfl, by kernel_rfl, by kernel_rfl, by kernel_rfl, by kernel_rfl, by kernel_rfl, fun _ => by kernel_rfl, (fun h => nomatch h)⟩
def ti83 : TI := ⟨.mp 72 4, 1, 8, Value.map none, .vv (.map none), .bool, false, false⟩
theorem ti83_ok : TI.Ok Try.prog 83 ti83 := ⟨by kernel_rfl, by kernel_rfl, by kernel_rfl, by kernel_rfl, by kernel_rfl, by kernel_rfl, (fun h => nomatch h), (fun h => nomatch h)⟩
def ti84 : TI := ⟨.oth, 1, 8, Value.nilFunc, .vv .nilFunc, .bool, false, false⟩
theorem ti84_ok : TI.Ok Try.prog 84 ti84 := ⟨by kernel_rfl, by kernel_rfl, by kernel_rfl, by kernel_rfl, by kernel_rfl, by kernel_rfl, (fun h => nomatch h), (fun h => nomatch h)⟩
def ti85 : TI := ⟨.oth, 1, 8, Value.nilFunc, .vv .nilFunc, .bool, false, false⟩
theorem ti85_ok : TI.Ok Try.prog 85 ti85 := ⟨by kernel_rfl, by kernel_rfl, by kernel_rfl, by kernel_rfl, by kernel_rfl, by kernel_rfl, (fun h => nomatch h), (fun h => nomatch h)⟩
def ti88 : TI := ⟨.st [(0, 3), (1, 3)], 2, 16, Value.agg #[Value.int IntKind.i64 0, Value.int IntKind.i64 0], .agg [.int .i64 0, .int .i64 0], .s2 (.int .i64) (.int .i64), true, true⟩
theorem ti88_ok : TI.Ok Try.prog 88 ti88 := ⟨by kernel_rfl, by kernel_rfl, by kernel_rfl, by kernel_rfl, by kernel_rfl, by kernel_rfl, fun _ => by kernel_rfl, fun _ => by kernel_rfl⟩
def ti90 : TI := ⟨.oth, 1, 8, Value.nilFunc, .vv .nilFunc, .bool, false, false⟩
theorem ti90_ok : TI.Ok Try.prog 90 ti90 := ⟨by kernel_rfl, by kernel_rfl, by kernel_rfl, by kernel_rfl, by kernel_rfl, by kernel_rfl, (fun h => nomatch h), (fun h => nomatch h)⟩
def ti92 : TI := ⟨.oth, 1, 8, Value.nilFunc, .vv .nilFunc, .bool, false, false⟩
theorem ti92_ok : TI.Ok Try.prog 92 ti92 := ⟨by kernel_rfl, by kernel_rfl, by kernel_rfl, by kernel_rfl, by kernel_rfl, by kernel_rfl, (fun h => nomatch h), (fun h => nomatch h)⟩
def ti93 : TI := ⟨.oth, 1, 8, Value.nilFunc, .vv .nilFunc, .bool, false, false⟩
theorem ti93_ok : TI.Ok Try.prog 93 ti93 := ⟨by kernel_rfl, by kernel_rfl, by kernel_rfl, by kernel_rfl, by kernel_rfl, by kernel_rfl, (fun h => nomatch h), (fun h => nomatch h)⟩
def ti97 : TI := ⟨.int .u64, 1, 8, Value.int IntKind.u64 0, .int .u64 0, .int .u64, true, true⟩
theorem ti97_ok : TI.Ok Try.prog 97 ti97 := ⟨by kernel_rfl, by kernel_rfl, by kernel_rfl, by kernel_rfl, by kernel_rfl, by kernel_rfl, fun _ => by kernel_rfl, fun _ => by kernel_rfl⟩
def ti98 : TI := ⟨.sl 97, 1, 24, Value.slice none 0 0, .vv (.slice none 0 0), .sl (.int .u64), true, false⟩
theorem ti98_ok : TI.Ok Try.prog 98 ti98 := ⟨by kernel_rfl, by kernel_rfl, by kernel_rfl, by kernel_rfl, by kernel_rfl, by kernel_rfl, fun _ => by kernel_rfl, (fun h => nomatch h)⟩
def ti101 : TI := ⟨.int .u32, 1, 4, Value.int IntKind.u32 0, .int .u32 0, .int .u32, true, true⟩
theorem ti101_ok : TI.Ok Try.prog 101 ti101 := ⟨by kernel_rfl, by kernel_rfl, by kernel_rfl, by kernel_rfl, by kernel_rfl, by kernel_rfl, fun _ => by kernel_rfl, fun _ => by kernel_rfl⟩
def ttL : List (Option TI) := [none, some ti1, some ti2, some ti3, some ti4, some ti5, some ti6, none, some ti8, none, none, none, none, none, none, none, none, none, none, none, none, none, some ti22, none, none, some ti25, none, none, none, none, some ti30, none, some ti32, none, none, none, none, none, some ti38, none, none, none, none, none, none, none, none, none, none, none, some ti50, none, none, none, none, none, some ti56, none, none, none, none, none, some ti62, none, some ti64, none, some ti66, none, none, some ti69, some ti70, none, some ti72, none, some ti74, some ti75, none, none, none, none, none, none, none, some ti83, some ti84, some ti85, none, none, some ti88, none, some ti90, none, some ti92, some ti93, none, none, none, some ti97, some ti98, none, none, some ti101, none, none, none, none, none, none, none, none, none, none, none, none, none, none, none, none, none]
theorem ttL_ok : AllOk Try.prog 0 ttL := ⟨ti1_ok, ti2_ok, ti3_ok, ti4_ok, ti5_ok, ti6_ok, ti8_ok, ti22_ok, ti25_ok, ti30_ok, ti32_ok, ti38_ok, ti50_ok, ti56_ok, ti62_ok, ti64_ok, ti66_ok, ti69_ok, ti70_ok, ti72_ok, ti74_ok, ti75_ok, ti83_ok, ti84_ok, ti85_ok, ti88_ok, ti90_ok, ti92_ok, ti93_ok, ti97_ok, ti98_ok, ti101_ok, trivial⟩
def getTI : List (Option TI) -> Nat -> Option TI
 | [], _ => none
 | a :: _, 0 => a
 | _ :: l, n + 1 => getTI l n
theorem getTI_some : ∀ {l : List (Option TI)} {n : Nat} {ti : TI}, getTI l n = some ti -> l[n]? = some (some ti)
 | [], _, _, h => by simp [getTI] at h
 | a :: _, 0, ti, h => by simp [getTI] at h; simp [h]
 | _ :: l, n + 1, ti, h => by simpa using getTI_some (l := l) h
def tt (T : TypeId) : Option TI := getTI ttL T
theorem tt_ok (T : TypeId) (ti : TI) (h : tt T = some ti) : TI.Ok Try.prog T ti := by
 have := ttL_ok.get (getTI_some h)
 rwa [Nat.zero_add] at this
end Go.Am.Sh

/- Shells, plain: lists. -/
namespace Go.Am.Sh
theorem getD_lt {α : Type} {l : List α} {n : Nat} {d : α} (h : n < l.length) : l.getD n d = l[n] := by simp [List.getD_eq_getElem?_getD, h]
theorem mem_getD {α : Type} {l : List α} {n : Nat} {d : α} (h : n < l.length) : l.getD n d ∈ l := by rw [getD_lt h]; exact List.getElem_mem h
theorem take_getD {α : Type} {l : List α} {n : Nat} {d : α} (h : n < l.length) : l.take (n + 1) = l.take n ++ [l.getD n d] := by
 rw [getD_lt h]; exact (List.take_append_getElem h).symm
theorem all_take {α : Type} {P : α -> Prop} {l : List α} {n : Nat} {d : α} (h : n < l.length) : (∀ x ∈ l.take (n + 1), P x) ↔ (∀ x ∈ l.take n, P x) /\ P (l.getD n d) := by
 rw [take_getD (d := d) h]
 simp only [List.mem_append, List.mem_singleton]
 constructor
 · intro H; exact ⟨fun x hx => H x (.inl hx), H _ (.inr rfl)⟩
 · intro H x hx
   rcases hx with hx | hx
   · exact H.1 x hx
   · rw [hx]; exact H.2
theorem getD_append_left {α : Type} {l m : List α} {n : Nat} {d : α} (h : n < l.length) : (l ++ m).getD n d = l.getD n d := by
 rw [getD_lt h, getD_lt (by simp; omega), List.getElem_append_left h]
theorem ext_getD {α : Type} {l m : List α} {d : α} (hl : l.length = m.length) (h : ∀ n, n < l.length -> l.getD n d = m.getD n d) : l = m := by
 refine List.ext_getElem hl fun n h1 h2 => ?_
 have := h n h1
 rwa [getD_lt h1, getD_lt h2] at this
end Go.Am.Sh

/- Shells: what all functions share. -/
namespace Go.Am.Sh
open Go Go.Am Go.Proofs
def gl : Nat -> Option ((t : Ty) × t.D) := fun _ => none
abbrev EL := List (Entry Try.prog gl)
noncomputable def X (l : EL) : Cy := mkX Try.prog tt gl l 0 (fun _ => none)
theorem X_ok (l : EL) : (X l).Ok := mkX_ok tt_ok l 0 _
noncomputable def Xd (l : EL) (dr : Nat -> Option Nat) : Cy := mkX Try.prog tt gl l 0 dr
theorem Xd_ok (l : EL) (dr : Nat -> Option Nat) : (Xd l dr).Ok := mkX_ok tt_ok l 0 dr
def drOf (l : List (Nat × Nat)) (i : Nat) : Option Nat := match l with
 | [] => none
 | p :: l => if Nat.beq p.1 i then some p.2 else drOf l i
/-- The loop under a block. -/
noncomputable def lp (c : Code) (id : Nat) : Code := go c
where go : Code -> Code
 | .seq a b => match go a with
   | .skip => go b
   | c => c
 | .block i (.loop b) => if i = id then b else go b
 | .block _ b => go b
 | .scope b => go b
 | .cond _ a b => match go a with
   | .skip => go b
   | c => c
 | _ => .skip
def bodyOf (f : Func) : Code := f.body.getD .skip
theorem of_eq {p q : Prop} (h : p = q) (hq : q) : p := h ▸ hq
def dd (n : Nat) : List AV := List.replicate n .dead
theorem dff {p : Prop} [Decidable p] (h : ¬p) : false = decide p := by simp [h]
theorem dtt {p : Prop} [Decidable p] (h : p) : true = decide p := by simp [h]
theorem ddd' {p : Prop} [Decidable p] {b : Bool} (h : p ↔ b = true) : decide p = b := by cases b <;> simp_all
theorem LoopOK.mono {X : Cy} {b : Code} {h : Hint} {R R' : Exit -> St -> Prop} (hL : LoopOK X b h R) (hR : ∀ st, R .ret st -> R' .ret st) : LoopOK X b h R' := by
 intro ro G h1 h2 h3 E F st a w hr hJ
 refine wpIn_mono (hL ro G h1 h2 h3 E F st a w hr hJ) fun e a w he => ?_
 cases e with
 | ret =>
   obtain ⟨E, F, st, h4, h5⟩ := he
   exact ⟨E, F, st, h4, hR _ h5⟩
 | _ => exact he
theorem idx_nat {i n : Nat} (h : i < n) : idxPre (i : Int) n := by unfold idxPre; omega
abbrev I64 : Ty := .int .i64
abbrev SI : Ty := .sl (.int .i64)
abbrev P2 : Ty := .a2 (.int .i64)
/-- What the propositions of a run are cleared by. -/
theorem zz : (∀ p : Prop, (True /\ p) = p) /\ (∀ p : Prop, (p /\ True) = p) /\ (∀ p : Prop, (False /\ p) = False) /\ (∀ p : Prop, (p /\ False) = False) /\ (∀ p : Prop, (p ∨ False) = p) /\ (∀ p : Prop, (False ∨ p) = p)
   /\ (∀ (b : Prop) (α : Type) [Nonempty α], (∃ _ : α, b) ↔ b) /\ (∀ α : Type, ¬ ∃ _ : α, False) /\ ∀ n : Nat, (n : Int).toNat = n :=
 ⟨true_and, and_true, false_and, and_false, or_false, false_or, fun _ α _ => exists_const α, fun _ h => h.elim fun _ h => h, Int.toNat_natCast⟩
end Go.Am.Sh

/- Shells, plain: sets of at most six corners as numbers. -/
namespace Go.Am.Sh
open Go Go.Am
theorem ofInt_nat (w n : Nat) : BitVec.ofInt w (n : Int) = BitVec.ofNat w n := by
 apply BitVec.eq_of_toNat_eq
 rw [BitVec.toNat_ofInt, BitVec.toNat_ofNat]
 omega
theorem wrap_nat {n : Nat} (h : n < 9223372036854775808) : IntKind.wrap .i64 (n : Int) = n := wrap_inR (by simp only [inR]; omega)
theorem wrap_u64 {n : Nat} (h : n < 18446744073709551616) : IntKind.wrap .u64 (n : Int) = n := wrap_inR (by simp only [inR]; omega)
theorem bAnd_nat {a b : Nat} (ha : a < 9223372036854775808) (hb : b < 9223372036854775808) : bAnd .i64 a b = ((a &&& b : Nat) : Int) := by
 unfold bAnd
 show IntKind.wrap .i64 (((BitVec.ofInt 64 (a : Int)) &&& (BitVec.ofInt 64 (b : Int))).toNat : Int) = _
 rw [ofInt_nat, ofInt_nat, BitVec.toNat_and, BitVec.toNat_ofNat, BitVec.toNat_ofNat, Nat.mod_eq_of_lt (by omega), Nat.mod_eq_of_lt (by omega), wrap_nat]
 exact Nat.lt_of_le_of_lt Nat.and_le_left ha
theorem bOr_nat {a b : Nat} (ha : a < 9223372036854775808) (hb : b < 9223372036854775808) : bOr .i64 a b = ((a ||| b : Nat) : Int) := by
 unfold bOr
 show IntKind.wrap .i64 (((BitVec.ofInt 64 (a : Int)) ||| (BitVec.ofInt 64 (b : Int))).toNat : Int) = _
 rw [ofInt_nat, ofInt_nat, BitVec.toNat_or, BitVec.toNat_ofNat, BitVec.toNat_ofNat, Nat.mod_eq_of_lt (by omega), Nat.mod_eq_of_lt (by omega), wrap_nat]
 exact Nat.or_lt_two_pow (n := 63) ha hb
/-- What is in a and not in b. -/
def mns (a b : Nat) : Nat := a ^^^ (a &&& b)
theorem bNot_nat {a b : Nat} (ha : a < 9223372036854775808) (hb : b < 9223372036854775808) : bNot .i64 a b = ((mns a b : Nat) : Int) := by
 unfold bNot
 show IntKind.wrap .i64 (((BitVec.ofInt 64 (a : Int)) &&& ~~~(BitVec.ofInt 64 (b : Int))).toNat : Int) = _
 have e : ((BitVec.ofInt 64 (a : Int)) &&& ~~~(BitVec.ofInt 64 (b : Int))).toNat = mns a b := by
   rw [ofInt_nat, ofInt_nat, BitVec.toNat_and, BitVec.toNat_not, BitVec.toNat_ofNat, BitVec.toNat_ofNat, Nat.mod_eq_of_lt (by omega), Nat.mod_eq_of_lt (by omega)]
   unfold mns
   apply Nat.eq_of_testBit_eq
   intro i
   rw [Nat.testBit_and, Nat.testBit_xor, Nat.testBit_and]
   by_cases hi : i < 64
   · rw [show 2 ^ 64 - 1 - b = 2 ^ 64 - (b + 1) by omega, Nat.testBit_two_pow_sub_succ (by omega)]
     simp only [hi, decide_true, Bool.true_and]
     cases a.testBit i <;> cases b.testBit i <;> rfl
   · have h1 : a.testBit i = false := Nat.testBit_lt_two_pow (Nat.lt_of_lt_of_le ha (Nat.le_trans (by decide) (Nat.pow_le_pow_right (by decide) (show 63 <= i by omega))))
     rw [h1]; try rfl
 rw [e, wrap_nat]
 exact Nat.xor_lt_two_pow (n := 63) ha (Nat.lt_of_le_of_lt Nat.and_le_left ha)
/-- The number of corners. -/
def pc (x : Nat) : Nat := x % 2 + x / 2 % 2 + x / 4 % 2 + x / 8 % 2 + x / 16 % 2 + x / 32 % 2
theorem pc_le (x : Nat) : pc x <= 6 := by unfold pc; omega
/-- One set is a part of another. -/
def sub (a b : Nat) : Bool := Nat.beq (a &&& b) a
/-- Its first corners alone. -/
def pcK (x : Nat) : Nat -> Nat
 | 0 => 0
 | k + 1 => pcK x k + x / 2 ^ k % 2
theorem sub_mns : ∀ a b : Fin 64, (mns a.val b.val = 0) = (sub a.val b.val = true) := by decide +kernel
end Go.Am.Sh

/- Shells: sizes of sets. -/
namespace Go.Am.Sh
open Go Go.Am Go.Proofs
abbrev U64 : Ty := .int .u64
def o1 (x : Int) : Int := modU .u64 (bAnd .u64 (x / 2) 6148914691236517205 + bAnd .u64 x 6148914691236517205)
def o2 (x : Int) : Int := modU .u64 (bAnd .u64 (x / 4) 3689348814741910323 + bAnd .u64 x 3689348814741910323)
def o3 (x : Int) : Int := bAnd .u64 (modU .u64 (x / 16 + x)) 1085102592571150095
def o4 (k x : Int) : Int := modU .u64 (x + x / k)
def o5 (x : Int) : Int := o4 4294967296 (o4 65536 (o4 256 (o3 (o2 (o1 x)))))
theorem o5_small : ∀ x : Fin 64, (0 <= o5 (x.val : Int) /\ o5 (x.val : Int) <= 9223372036854775807) /\ bAnd .i64 (o5 (x.val : Int)) 127 = (pc x.val : Int) := by decide +kernel
theorem call91 (x : Nat) (h : x < 64) : GCall Try.prog gl 91 true [.int .u64 x] [] [.int .i64 (pc x)] [] := by
 refine gcall_of (X := X []) (X_ok []) (f := 91) (fn := Try.f91) (c := bodyOf Try.f91) (by kernel_rfl) (by kernel_rfl) (view := false) (rvs := [.tmp 2]) (by kernel_rfl) (H := fun _ => none) 80 (by kernel_rfl) ?_
 refine of_eq (q := True /\ True /\ ((0 : Int) <= 1 /\ 1 < bitsOf .u64) /\ True /\ True /\ True /\ True /\ True /\ True /\ ((0 : Int) <= 2 /\ 2 < bitsOf .u64) /\ True /\ True /\ True /\ True /\ True /\ True /\ ((0 : Int) <= 4 /\ 4 < bitsOf .u64) /\ True /\ True /\ True /\ True /\ True /\ True /\ ((0 : Int) <= 8 /\ 8 < bitsOf .u64) /\ True /\ True /\ True /\ True /\ ((0 : Int) <= 16 /\ 16 < bitsOf .u64) /\ True /\ True /\ True /\ True /\ ((0 : Int) <= 32 /\ 32 < bitsOf .u64) /\ True /\ True /\ True /\ inR .i64 (o5 x) /\ True /\ True /\ True /\ (bAnd .i64 (o5 x) 127 = (pc x : Int) /\ True) /\ True) (by kernel_rfl) ?_
 simp only [zz]
 obtain ⟨h1, h2⟩ := o5_small ⟨x, h⟩
 simp only [bitsOf]
 exact ⟨by decide, by decide, by decide, by decide, by decide, by decide, by simp only [inR]; exact ⟨Int.le_trans (by decide) h1.1, h1.2⟩, h2⟩
def e91 : Entry Try.prog gl := entry1 91 ⟨Try.f91, by kernel_rfl, by kernel_rfl, by kernel_rfl⟩ U64 (fun (x : Int) => 0 <= x /\ x < 64) true (fun (x : Int) => [.int .i64 (pc x.toNat)]) (fun _ => []) (fun (x : Int) h => by have h : 0 <= x /\ x < 64 := h; have := call91 x.toNat (by omega); rwa [Int.toNat_of_nonneg h.1] at this)
theorem call85 (x : Int) (h : 0 <= x /\ x < 64) : GCall Try.prog gl 85 true [.int .u64 x] [] [.int .i64 (pc x.toNat)] [] := by
 refine gcall_of (X := X [e91]) (X_ok [e91]) (f := 85) (fn := Try.f85) (c := bodyOf Try.f85) (by kernel_rfl) (by kernel_rfl) (view := false) (rvs := [.tmp 2]) (by kernel_rfl) (H := fun _ => none) 80 (by kernel_rfl) ?_
 refine of_eq (q := True /\ True /\ (((0 : Int) <= x /\ x < 64) /\ True) /\ True /\ True /\ ((↑(pc x.toNat) : Int) = (↑(pc x.toNat) : Int) /\ True) /\ True) (by kernel_rfl) ?_
 simp only [zz]
 exact h
def e85 : Entry Try.prog gl := entry1 85 ⟨Try.f85, by kernel_rfl, by kernel_rfl, by kernel_rfl⟩ U64 (fun (x : Int) => 0 <= x /\ x < 64) true (fun (x : Int) => [.int .i64 (pc x.toNat)]) (fun _ => []) (call85)
theorem call64 (x : Int) (h : 0 <= x /\ x < 64) : GCall Try.prog gl 64 true [.int .i64 x] [] [.int .i64 (pc x.toNat)] [] := by
 refine gcall_of (X := X [e85]) (X_ok [e85]) (f := 64) (fn := Try.f64) (c := bodyOf Try.f64) (by kernel_rfl) (by kernel_rfl) (view := false) (rvs := [.tmp 2]) (by kernel_rfl) (H := fun _ => none) 80 (by kernel_rfl) ?_
 refine of_eq (q := True /\ True /\ inR .u64 x /\ (((0 : Int) <= x /\ x < 64) /\ True) /\ True /\ True /\ ((↑(pc x.toNat) : Int) = (↑(pc x.toNat) : Int) /\ True) /\ True) (by kernel_rfl) ?_
 simp only [zz]
 exact ⟨by simp only [inR]; omega, h⟩
def e64 : Entry Try.prog gl := entry1 64 ⟨Try.f64, by kernel_rfl, by kernel_rfl, by kernel_rfl⟩ I64 (fun (x : Int) => 0 <= x /\ x < 64) true (fun (x : Int) => [.int .i64 (pc x.toNat)]) (fun _ => []) (call64)
theorem call63 (x y : Int) (h : (0 <= x /\ x < 64) /\ 0 <= y /\ y < 64) : GCall Try.prog gl 63 true [.int .i64 x, .int .i64 y] [] [.bool (sub x.toNat y.toNat)] [] := by
 refine gcall_of (X := X []) (X_ok []) (f := 63) (fn := Try.f63) (c := bodyOf Try.f63) (by kernel_rfl) (by kernel_rfl) (view := false) (rvs := [.tmp 4]) (by kernel_rfl) (H := fun _ => none) 80 (by kernel_rfl) ?_
 refine of_eq (q := True /\ True /\ True /\ True /\ True /\ True /\ True /\ (decide (bNot .i64 x y = 0) = sub x.toNat y.toNat /\ True) /\ True) (by kernel_rfl) ?_
 simp only [zz]
 obtain ⟨a, rfl⟩ : ∃ n : Nat, x = n := ⟨x.toNat, by omega⟩
 obtain ⟨b, rfl⟩ : ∃ n : Nat, y = n := ⟨y.toNat, by omega⟩
 rw [bNot_nat (by omega) (by omega)]
 have := sub_mns ⟨a, by omega⟩ ⟨b, by omega⟩
 simp only [Int.toNat_natCast] at this |-
 refine ddd' ?_
 rw [<- this]; omega
def e63 : Entry Try.prog gl := entry2 63 ⟨Try.f63, by kernel_rfl, by kernel_rfl, by kernel_rfl⟩ I64 I64 (fun (x y : Int) => (0 <= x /\ x < 64) /\ 0 <= y /\ y < 64) true (fun (x y : Int) => [.bool (sub x.toNat y.toNat)]) (fun _ _ => []) (call63)
end Go.Am.Sh

/- Shells: the reference: lists, faces. -/
namespace Go.Am.Sh
open Go Go.Am Go.Proofs
noncomputable def L23_0 : Code := lp (bodyOf Try.f23) 0
def inv23 (a b : List Int) (k : Nat) : Prop := k <= a.length /\ a.take k = b.take k
def st23 (a b : List Int) (k : Nat) : St := ⟨.sl I64 a :: .sl I64 b :: .dead :: .dead :: .dead :: .int .i64 k :: dd 20, []⟩
def ex23 (a b : List Int) : List (List Nat × Ex) := [([], ⟨0, Unit, fun _ => a = b, fun _ => ⟨dd 26, []⟩⟩)]
noncomputable def H23 (a b : List Int) : Nat -> Option Hint := fun _ => some ⟨chk 0 [0, 1, 5] (inv23 a b) (st23 a b), (ex23 a b).map (·.2)⟩
theorem loop23 (a b : List Int) (hl : a.length < 1000000000000000) (he : a.length = b.length) : LoopOK (X []) L23_0 ⟨chk 0 [0, 1, 5] (inv23 a b) (st23 a b), (ex23 a b).map (·.2)⟩ (RetR (X []) true false [.tmp 4] [.bool (decide (a = b))] []) := by
 refine loop_ok (X_ok []) (H := fun _ _ => none) [0, 1, 5] (inv23 a b) (st23 a b) (fun k => a.length - k) (ex23 a b) 80 fun (k : Nat) hk => ?_
 refine of_eq (q := (fun (e : Prop) => (fun (d : Prop) => (fun (c : Int) => d /\ d /\ d /\ d /\ (c < (a.length : Int) -> d /\ d /\ idxPre c a.length /\ d /\ d /\ d /\ idxPre c b.length /\ d /\ d /\ (e -> d /\ d /\ (false = decide (a = b) /\ d) /\ d) /\ (¬e -> d /\ inR .i64 (c + 1) /\ d /\ ∃ (y : Nat), (inv23 a b y /\ a.length - y < a.length - k) /\ (a = a /\ b = b /\ c + 1 = (y : Int) /\ d) /\ d)) /\ (¬c < (a.length : Int) -> ∃ (y : Unit), a = b /\ d /\ d)) ((k : Int))) (True)) (¬a.getD k (0 : Int) = b.getD k (0 : Int))) (by kernel_rfl) ?_
 simp only [zz]
 obtain ⟨h1, h2⟩ := hk
 refine ⟨fun h => ?_, fun h => ?_⟩
 · refine ⟨idx_nat (by omega), idx_nat (by omega), fun h3 => dff fun h4 => h3 (by rw [h4]), fun h3 => ⟨by simp only [inR]; omega, k + 1, ⟨⟨by omega, ?_⟩, by omega⟩, rfl⟩⟩
   rw [take_getD (d := 0) (by omega), take_getD (d := 0) (by omega), h2, Classical.not_not.mp h3]
 · rw [List.take_of_length_le (by omega), List.take_of_length_le (by omega)] at h2; exact h2
theorem call23 (a b : List Int) (hl : a.length < 1000000000000000) : GCall Try.prog gl 23 true [.sl I64 a, .sl I64 b] [] [.bool (decide (a = b))] [] := by
 refine gcall_of (X := X []) (X_ok []) (f := 23) (fn := Try.f23) (c := bodyOf Try.f23) (by kernel_rfl) (by kernel_rfl) (view := false) (rvs := [.tmp 4]) (by kernel_rfl) (H := (H23 a b)) 80 (by kernel_rfl) ?_
 have hL := loop23 a b hl
 refine of_eq (q := (fun (e : Prop) => (fun (d : Bool) => (fun (c : Prop) => c /\ c /\ c /\ c /\ c /\ c /\ (e -> c /\ c /\ (false = d /\ c) /\ c) /\ (¬e -> c /\ LoopOK (X []) L23_0 { J := chk (0 : Nat) [(0 : Nat), (1 : Nat), (5 : Nat)] (inv23 a b) (st23 a b), exits := List.map (fun (x : List Nat × Ex) => x.snd) (ex23 a b) } (RetR (X []) true false [ResultVar.tmp (4 : Tmp)] [AV.bool d] []) /\ (∃ (y : Nat), inv23 a b y /\ (a = a /\ b = b /\ (0 : Int) = (y : Int) /\ c) /\ c) /\ (∀ (y : Unit), a = b -> c /\ c /\ (true = d /\ c) /\ c) /\ c)) (True)) (decide (a = b))) (¬(a.length : Int) = (b.length : Int))) (by kernel_rfl) ?_
 simp only [zz]
 exact ⟨fun h => dff fun e => h (by rw [e]), fun h => ⟨hL (by omega), ⟨0, ⟨by omega, by simp⟩, rfl⟩, fun _ h => dtt h⟩⟩
def e23 : Entry Try.prog gl := entry2 23 ⟨Try.f23, by kernel_rfl, by kernel_rfl, by kernel_rfl⟩ SI SI (fun a b => a.length < 1000000000000000) true (fun a b => [.bool (decide (a = b))]) (fun _ _ => []) (call23)
/-- Sets of at most six corners. -/
def okL (p : List Int) : Prop := ∀ s ∈ p, 0 <= s /\ s < 64
theorem okL_get {p : List Int} (h : okL p) (k : Nat) : 0 <= p.getD k 0 /\ p.getD k 0 < 64 := by
 rcases Nat.lt_or_ge k p.length with hk | hk
 · exact h _ (mem_getD hk)
 · rw [List.getD_eq_getElem?_getD, List.getElem?_eq_none hk]; decide
def isF (p : List Int) (x : Nat) : Bool := p.any fun s => sub x s.toNat
theorem any_take {f : Int -> Bool} {p : List Int} {k : Nat} (hk : k < p.length) : (p.take (k + 1)).any f = ((p.take k).any f || f (p.getD k 0)) := by
 rw [take_getD (d := 0) hk, List.any_append]; simp
def numOk (n : Int) : Prop := 1 <= n /\ n <= 6
theorem numOk_pow {n : Int} (h : numOk n) : ((2 ^ n.toNat : Nat) : Int) = 2 ^ n.toNat /\ 2 <= 2 ^ n.toNat /\ 2 ^ n.toNat <= 64 := by
 obtain ⟨h1, h2⟩ := h
 refine ⟨by rw [Int.natCast_pow]; rfl, ?_, ?_⟩
 · exact Nat.pow_le_pow_right (n := 2) (by decide) (show 1 <= n.toNat by omega)
 · exact Nat.pow_le_pow_right (n := 2) (by decide) (show n.toNat <= 6 by omega)
end Go.Am.Sh

/- Shells: all parts of sets. -/
namespace Go.Am.Sh
open Go Go.Am Go.Proofs
def rfC : Code -> Option (Array Tmp × Code × Code)
 | .seq a b => (match rfC a with
   | some r => some r
   | none => rfC b)
 | .cond _ a b => (match rfC a with
   | some r => some r
   | none => rfC b)
 | .block _ b => rfC b
 | .loop b => rfC b
 | .scope b => rfC b
 | .rangeFunc _ ps a b => some (ps, a, b)
 | _ => none
noncomputable def rcC (ixs : List Nat) (f : Func) : RcC := match rfC (bodyOf f) with
 | some r => ⟨ixs, f.ntmps, r.1, r.2.1, r.2.2⟩
 | none => ⟨[], 0, #[], .skip, .skip⟩
noncomputable def Xy (l : EL) (yl : List (YEntry Try.prog gl)) (ro : Option Nat) (m0 : Nat) (dr : Nat -> Option Nat) : Cy := mkY Try.prog tt gl l yl ro m0 dr
theorem Xy_ok (l : EL) (yl : List (YEntry Try.prog gl)) (ro : Option Nat) (m0 : Nat) (dr : Nat -> Option Nat) : (Xy l yl ro m0 dr).Ok := mkY_ok tt_ok l yl ro m0 dr
/-- All sets, marked. -/
def mk (g : Nat -> Bool) : List Bool := (List.range 64).map g
theorem mk_length (g : Nat -> Bool) : (mk g).length = 64 := by simp [mk]
theorem mk_ext {f g : Nat -> Bool} (h : ∀ x, x < 64 -> f x = g x) : mk f = mk g := List.map_congr_left fun x hx => h x (by simpa using hx)
theorem mk_getD {g : Nat -> Bool} {x : Nat} (h : x < 64) : (mk g).getD x false = g x := by simp [mk, List.getD_eq_getElem?_getD, h]
theorem mk_set (g : Nat -> Bool) (p : Nat) (b : Bool) : (mk g).set p b = mk (fun x => if x = p then b else g x) := by
 apply List.ext_getElem (by simp [mk])
 intro i h1 h2
 rw [List.getElem_set]
 simp only [mk, List.getElem_map, List.getElem_range]
 by_cases e : p = i
 · rw [if_pos e, if_pos e.symm]
 · rw [if_neg e, if_neg fun h => e h.symm]
def FA : Ty := .ar 64 .bool
/-- The next part of a set. -/
def nxf (s : Nat) : Nat -> Nat -> Nat
 | 0, x => x
 | n + 1, x => if sub x s then x else nxf s n (x + 1)
theorem nxf_ge (s : Nat) : ∀ n x, x <= nxf s n x /\ ∀ y, x <= y -> y < nxf s n x -> sub y s = false
 | 0, x => ⟨Nat.le_refl _, fun y h1 h2 => by rw [nxf] at h2; omega⟩
 | n + 1, x => by
   rw [nxf]
   split
   · exact ⟨Nat.le_refl _, fun y h1 h2 => by omega⟩
   · rename_i h
     obtain ⟨h1, h2⟩ := nxf_ge s n (x + 1)
     refine ⟨by omega, fun y h3 h4 => ?_⟩
     by_cases e : y = x
     · subst e; simpa using h
     · exact h2 y (by omega) h4
theorem nxf_sub (s : Nat) : ∀ n x, x <= s -> s < x + n -> sub s s = true -> sub (nxf s n x) s = true /\ nxf s n x <= s
 | 0, x, h1, h2, _ => by omega
 | n + 1, x, h1, h2, hs => by
   rw [nxf]
   split
   · rename_i h; exact ⟨h, h1⟩
   · rename_i h
     have : x ≠ s := fun e => by rw [e] at h; exact h hs
     exact nxf_sub s n (x + 1) (by omega) (by omega) hs
theorem parts_next : ∀ s p : Fin 64, sub p.val s.val = true -> p.val ≠ s.val -> bAnd .i64 ((p.val : Int) - (s.val : Int)) (s.val : Int) = (nxf s.val 64 (p.val + 1) : Int) := by decide +kernel
theorem sub_self (s : Nat) : sub s s = true := by unfold sub; rw [Nat.and_self]; exact Nat.beq_refl s
theorem sub_le {a b : Nat} (h : sub a b = true) : a <= b := by
 unfold sub at h
 have := Nat.eq_of_beq_eq_true h
 rw [<- this]; exact Nat.and_le_right
theorem sub_zero (s : Nat) : sub 0 s = true := by unfold sub; rw [Nat.zero_and]; try rfl
noncomputable def C62 : RcC := rcC [3] Try.f62
noncomputable def ob62 (xs : List Bool) : List Ob := [.lp C62 .ready none (.clo 0 [.ptr 1 0 []] []), .bx (.ar .bool 64 xs)]
def aY (i : Int) : List AV := [.yld 0, .int .i64 i]
theorem y62 (i : Int) (xs : List Bool) (h : (0 <= i /\ i < 64) /\ xs.length = 64) : GYield Try.prog gl false (aY i) (ob62 xs) [.tt] (ob62 (xs.set i.toNat true)) := by
 refine gyield_of (X := Xy [] [] (some 0) 2 (fun _ => none)) (Xy_ok _ _ _ _ _) (C := C62) (j := none) (vs := [.ptr 1 0 []]) (xs := [.int .i64 i]) (view := false) (by kernel_rfl) (by kernel_rfl) (by kernel_rfl) (H := fun _ => none) 90 90 ?_
 refine of_eq (q := True /\ True /\ idxPre i (64 : Nat) /\ True /\ (true = true /\ True) /\ (C62 = C62 /\ LoopState.ready = LoopState.ready /\ (none : Option Code) = none /\ (True /\ True) /\ True) /\ xs.set i.toNat true = xs.set i.toNat true /\ True) (by kernel_rfl) ?_
 simp only [zz]
 exact h.1
def unFa : Ob -> Option (List Bool)
 | .bx (.ar e _ xs) => castL e .bool xs
 | _ => none
def getY62 (xs : List AV) (obs : List Ob) : Option (Int × List Bool) :=
 match xs with
 | [_, i] => (match toInt .i64 i, unFa (obs.getD 1 .gone) with
   | some i, some xs => some (i, xs)
   | _, _ => none)
 | _ => none
noncomputable def EY62 : YEntry Try.prog gl := yentryW getY62 (fun x => (0 <= x.1 /\ x.1 < 64) /\ x.2.length = 64) false (fun x => aY x.1) (fun x => ob62 x.2) (fun _ => [.tt]) (fun x => ob62 (x.2.set x.1.toNat true)) (fun x h => y62 x.1 x.2 h)
theorem call84 (s : Int) (_ : True) : GCall Try.prog gl 84 true [.int .i64 s] [] [.clo 89 [] [.ptr 0 0 []]] [.bx (.int .i64 s)] := by
 refine gcall_of (X := X []) (X_ok []) (f := 84) (fn := Try.f84) (c := bodyOf Try.f84) (by kernel_rfl) (by kernel_rfl) (view := false) (rvs := [.tmp 2]) (by kernel_rfl) (H := fun _ => none) 80 (by kernel_rfl) ?_
 refine of_eq (q := True /\ True /\ True /\ True /\ True /\ ((True /\ True /\ True) /\ True) /\ s = s /\ True) (by kernel_rfl) ?_
 simp only [zz]
def e84 : Entry Try.prog gl := entry1 84 ⟨Try.f84, by kernel_rfl, by kernel_rfl, by kernel_rfl⟩ I64 (fun _ => True) true (fun _ => [.clo 89 [] [.ptr 0 0 []]]) (fun (s : Int) => [.bx (.int .i64 s)]) (call84)
noncomputable def L89_0 : Code := lp (bodyOf Try.f89) 0
noncomputable def ob89 (F : Nat -> Bool) (s p : Nat) : List Ob := ob62 (mk fun x => F x || (sub x s && decide (x < p))) ++ [.bx (.int .i64 s)]
noncomputable def st89 (F : Nat -> Bool) (s p : Nat) : St := ⟨.yld 0 :: .ptr 2 0 [] :: .dead :: .int .i64 p :: dd 14, ob89 F s p⟩
def inv89 (s p : Nat) : Prop := p <= s /\ sub p s = true
noncomputable def H89 (F : Nat -> Bool) (s : Nat) : Nat -> Option Hint := fun _ => some ⟨chk 3 [0, 1, 3] (inv89 s) (st89 F s), []⟩
noncomputable def ob89z (F : Nat -> Bool) (s : Nat) : List Ob := ob62 (mk fun x => F x || sub x s) ++ [.bx (.int .i64 s)]
theorem loop89 (F : Nat -> Bool) (s : Nat) (hs : s < 64) : LoopOK (Xy [] [EY62] none 3 (fun _ => none)) L89_0 ⟨chk 3 [0, 1, 3] (inv89 s) (st89 F s), []⟩ (RetR (Xy [] [EY62] none 3 (fun _ => none)) false false [] [] (ob89z F s)) := by
 refine loop_ok (Xy_ok _ _ _ _ _) (H := fun _ _ => none) [0, 1, 3] (inv89 s) (st89 F s) (fun p => 64 - p) [] 90 fun (p : Nat) hp => ?_
 refine of_eq (q := (fun (e : Prop) => (fun (d : Int) => (fun (c : Int) => (fun (b : Prop) => (fun (a : List Bool) => e /\ e /\ (((((0 : Int) <= d /\ d < 64) /\ a.length = 64) /\ (e /\ d = d /\ e) /\ b /\ a = a /\ e) /\ e /\ e /\ e) /\ e /\ e /\ e /\ e /\ e /\ e /\ (d = c -> e /\ e /\ b /\ (a.set p true = mk fun (x : Nat) => F x || sub x s) /\ c = c /\ e) /\ (¬d = c -> e /\ e /\ inR .i64 (d - c) /\ e /\ e /\ e /\ ∃ (y : Nat), (inv89 s y /\ (64 : Nat) - y < 64 - p) /\ (e /\ e /\ bAnd .i64 (d - c) c = (y : Int) /\ e) /\ b /\ (a.set p true = mk fun (x : Nat) => F x || sub x s && decide (x < y)) /\ c = c /\ e)) (mk fun (x : Nat) => F x || sub x s && decide (x < p))) (C62 = C62 /\ LoopState.ready = LoopState.ready /\ (none : Option Code) = none /\ (e /\ e) /\ e)) ((s : Int))) ((p : Int))) (True)) (by kernel_rfl) ?_
 simp only [zz]
 obtain ⟨h1, h2⟩ := hp
 refine ⟨⟨by omega, mk_length _⟩, fun h => ?_, fun h => ?_⟩
 · have : p = s := by omega
   subst this
   rw [mk_set]
   refine mk_ext fun x hx => ?_
   by_cases e : x = p
   · subst e; simp [sub_self]
   · rw [if_neg e]
     cases hsx : sub x p with
     | false => simp
     | true => have := sub_le hsx; simp [show x < p by omega]
 · have hne : p ≠ s := fun e => h (by rw [e])
   have hn := parts_next ⟨p, by omega⟩ ⟨s, hs⟩
   have hn := parts_next ⟨s, hs⟩ ⟨p, by omega⟩ h2 hne
   obtain ⟨g1, g2⟩ := nxf_ge s 64 (p + 1)
   obtain ⟨g3, g4⟩ := nxf_sub s 64 (p + 1) (by omega) (by omega) (sub_self s)
   refine ⟨by simp only [inR]; omega, nxf s 64 (p + 1), ⟨⟨g4, g3⟩, by omega⟩, hn, ?_⟩
   rw [mk_set]
   refine mk_ext fun x hx => ?_
   by_cases e : x = p
   · subst e
     simp [h2, show x < nxf s 64 (x + 1) by omega]
   · rw [if_neg e]
     cases hsx : sub x s with
     | false => simp
     | true =>
       have : (x < p) ↔ (x < nxf s 64 (p + 1)) := by
         constructor
         · omega
         · intro hx2
           false_or_by_contra
           have := g2 x (by omega) hx2
           rw [hsx] at this; cases this
       simp [this]
theorem call89 (F : Nat -> Bool) (s : Nat) (hs : s < 64) : GCall Try.prog gl 89 false [.yld 0, .ptr 2 0 []] (ob62 (mk F) ++ [.bx (.int .i64 s)]) [] (ob89z F s) := by
 refine gcall_of (X := (Xy [] [EY62] none 3 (fun _ => none))) ((Xy_ok _ _ _ _ _)) (f := 89) (fn := Try.f89) (c := bodyOf Try.f89) (by kernel_rfl) (by kernel_rfl) (view := false) (rvs := []) (by kernel_rfl) (H := (H89 F s)) 80 (by kernel_rfl) ?_
 have hL := loop89 F s hs
 refine of_eq (q := (fun (a : Cy) => True /\ LoopOK a L89_0 { J := chk (3 : Nat) [(0 : Nat), (1 : Nat), (3 : Nat)] (inv89 s) (st89 F s), exits := [] } (RetR a false false [] [] (ob89z F s)) /\ (∃ (y : Nat), inv89 s y /\ (True /\ True /\ (0 : Int) = (y : Int) /\ True) /\ (C62 = C62 /\ LoopState.ready = LoopState.ready /\ (none : Option Code) = none /\ (True /\ True) /\ True) /\ (mk F = mk fun (x : Nat) => F x || sub x s && decide (x < y)) /\ (s : Int) = (s : Int) /\ True) /\ True) (Xy [] [EY62] none (3 : Nat) fun (x : Nat) => none)) (by kernel_rfl) ?_
 simp only [zz]
 refine ⟨hL, 0, ⟨Nat.zero_le _, sub_zero s⟩, rfl, mk_ext fun x _ => ?_⟩
 simp
def unIn : Ob -> Option Int
 | .bx c => toInt .i64 c
 | _ => none
def get89 (_ : List AV) (obs : List Ob) : Option (List Bool × Int) :=
 match unFa (obs.getD 1 .gone), unIn (obs.getD 2 .gone) with
 | some xs, some s => some (xs, s)
 | _, _ => none
/-- The marks of a set's parts put in. -/
def addS (xs : List Bool) (s : Int) : List Bool := mk fun x => xs.getD x false || sub x s.toNat
theorem mk_of {xs : List Bool} (h : xs.length = 64) : mk (fun x => xs.getD x false) = xs := by
 apply List.ext_getElem (by simp [mk, h])
 intro i h1 h2
 simp [mk, List.getD_eq_getElem?_getD, h2]
noncomputable def e89 : Entry Try.prog gl := entryW 89 ⟨Try.f89, by kernel_rfl, by kernel_rfl, by kernel_rfl⟩ true get89 (fun x => x.1.length = 64 /\ 0 <= x.2 /\ x.2 < 64) false (fun _ => [.yld 0, .ptr 2 0 []]) (fun x => ob62 x.1 ++ [.bx (.int .i64 x.2)]) (fun _ => []) (fun x => ob62 (addS x.1 x.2) ++ [.bx (.int .i64 x.2)]) (by
 rintro ⟨xs, s⟩ ⟨h1, h2, h3⟩
 have := call89 (fun x => xs.getD x false) s.toNat (by dsimp only at h2 h3; omega)
 rw [mk_of h1] at this
 unfold ob89z at this
 rwa [Int.toNat_of_nonneg h2] at this)
def zsB : List Bool := List.replicate 64 false
noncomputable def L62_0 : Code := lp (bodyOf Try.f62) 0
def st62 (l : List Int) (k : Nat) : St := ⟨.dead :: .dead :: .ptr 0 0 [] :: .ptr 1 0 [] :: .dead :: .dead :: .dead :: .sl I64 l :: .int .i64 l.length :: .int .i64 k :: dd 10, [.bx (.ar .bool 64 zsB), .bx (.ar .bool 64 (mk (isF (l.take k))))]⟩
def inv62 (l : List Int) (k : Nat) : Prop := k <= l.length
def ex62 (l : List Int) : List (List Nat × Ex) := [([2, 3], ⟨0, Unit, fun _ => True, fun _ => ⟨.dead :: .dead :: .ptr 0 0 [] :: .ptr 1 0 [] :: dd 16, [.bx (.ar .bool 64 zsB), .bx (.ar .bool 64 (mk (isF l)))]⟩⟩)]
noncomputable def H62 (l : List Int) : Nat -> Option Hint := fun _ => some ⟨chk 0 [2, 3, 7, 8, 9] (inv62 l) (st62 l), (ex62 l).map (·.2)⟩
noncomputable def X62 : Cy := Xy [e84, e89] [] none 0 (fun _ => none)
theorem loop62 (l : List Int) (hp : okL l) (hl : l.length < 1000000) (R : Exit -> St -> Prop) : LoopOK X62 L62_0 ⟨chk 0 [2, 3, 7, 8, 9] (inv62 l) (st62 l), (ex62 l).map (·.2)⟩ R := by
 refine loop_ok (Xy_ok _ _ _ _ _) (H := fun _ _ => none) [2, 3, 7, 8, 9] (inv62 l) (st62 l) (fun k => l.length - k) (ex62 l) 120 fun (k : Nat) hk => ?_
 refine of_eq (q := (fun (f : Int) => (fun (e : Int) => (fun (d : Prop) => (fun (c : Int) => (fun (b : Prop) => (fun (g : Prop) => (fun (a : List Bool) => b /\ (f < e -> idxPre f l.length /\ b /\ b /\ b /\ g /\ ((((a.length = 64 /\ (0 : Int) <= c /\ c < 64) /\ (b /\ g) /\ (C62 = C62 /\ LoopState.ready = LoopState.ready /\ d /\ g /\ b) /\ a = a /\ c = c /\ b) /\ b /\ b /\ g) /\ ¬LoopState.ready = LoopState.busy) /\ (d -> inR .i64 (f + 1) /\ b /\ ∃ (y : Nat), (inv62 l y /\ l.length - y < l.length - k) /\ (b /\ b /\ l = l /\ e = e /\ f + 1 = (y : Int) /\ b) /\ zsB = zsB /\ addS a c = mk (isF (List.take y l)) /\ b) /\ d /\ b) /\ (¬f < e -> ∃ (y : Unit), b /\ (b /\ g) /\ zsB = zsB /\ a = mk (isF l) /\ b)) (mk (isF (List.take k l)))) (b /\ b)) (True)) (l.getD k (0 : Int))) ((none : Option Code) = none)) ((l.length : Int))) ((k : Int))) (by kernel_rfl) ?_
 simp only [zz]
 have hk : k <= l.length := hk
 refine ⟨fun h => ⟨idx_nat (by omega), ⟨⟨mk_length _, okL_get hp k⟩, by simp⟩, fun _ => ⟨by simp only [inR]; omega, k + 1, ⟨by unfold inv62; omega, by omega⟩, by omega, ?_⟩⟩, fun h => ?_⟩
 · unfold addS
   refine mk_ext fun x hx => ?_
   rw [mk_getD hx]
   unfold isF
   rw [any_take (by omega)]
 · rw [List.take_of_length_le (by omega)]
theorem call62 (l : List Int) (h : okL l /\ l.length < 1000000) : GCall Try.prog gl 62 true [.sl I64 l] [] [.ar .bool 64 (mk (isF l))] [] := by
 refine gcall_of (X := (X62)) ((Xy_ok _ _ _ _ _)) (f := 62) (fn := Try.f62) (c := bodyOf Try.f62) (by kernel_rfl) (by kernel_rfl) (view := false) (rvs := [.cell 2 72]) (by kernel_rfl) (H := (H62 l)) 80 (by kernel_rfl) ?_
 have hL := loop62 l h.1 h.2
 refine of_eq (q := (fun (b : Prop) => (fun (a : List Bool) => b /\ b /\ b /\ b /\ b /\ LoopOK X62 L62_0 { J := chk (0 : Nat) [(2 : Nat), (3 : Nat), (7 : Nat), (8 : Nat), (9 : Nat)] (inv62 l) (st62 l), exits := List.map (fun (x : List Nat × Ex) => x.snd) (ex62 l) } (RetR X62 true false [ResultVar.cell (2 : Tmp) (72 : TypeId)] [AV.ar Ty.bool (64 : Nat) (mk (isF l))] []) /\ (∃ (y : Nat), inv62 l y /\ (b /\ b /\ l = l /\ (l.length : Int) = (l.length : Int) /\ (0 : Int) = (y : Int) /\ b) /\ a = zsB /\ a = mk (isF (List.take y l)) /\ b) /\ (∀ (y : Unit), b -> b /\ b /\ (b /\ b) /\ (mk (isF l) = mk (isF l) /\ b) /\ b) /\ b) ([false, false, false, false, false, false, false, false, false, false, false, false, false, false, false, false, false, false, false, false, false, false, false, false, false, false, false, false, false, false, false, false, false, false, false, false, false, false, false, false, false, false, false, false, false, false, false, false, false, false, false, false, false, false, false, false, false, false, false, false, false, false, false, false])) (True)) (by kernel_rfl) ?_
 simp only [zz]
 exact ⟨hL _, ⟨0, Nat.zero_le _, rfl, rfl, rfl⟩, fun _ _ => trivial⟩
def e62 : Entry Try.prog gl := entry1 62 ⟨Try.f62, by kernel_rfl, by kernel_rfl, by kernel_rfl⟩ SI (fun l => okL l /\ l.length < 1000000) true (fun l => [.ar .bool 64 (mk (isF l))]) (fun _ => []) (call62)
end Go.Am.Sh

/- Shells: a complex is opened. -/
namespace Go.Am.Sh
open Go Go.Am Go.Proofs
abbrev nl : AV := .vv (.slice none 0 0)
abbrev np : AV := .vv (.pointer none)
theorem call80 (l : List Int) (h : l.length < 1000000 /\ l ≠ []) : GCall Try.prog gl 80 false [.sl I64 l] [] [.sl I64 l] [] := by
 refine gcall_of (X := X []) (X_ok []) (f := 80) (fn := Try.f80) (c := bodyOf Try.f80) (by kernel_rfl) (by kernel_rfl) (view := true) (rvs := [.tmp 2]) (by kernel_rfl) (H := fun _ => none) 80 (by kernel_rfl) ?_
 refine of_eq (q := True /\ True /\ ¬l = [] /\ True /\ True /\ sumPre (0 : Nat) l.length (nat_lit 8) /\ True /\ True /\ (id l = l /\ True) /\ True) (by kernel_rfl) ?_
 simp only [zz]
 exact ⟨h.2, by unfold sumPre; omega, rfl⟩
def e80 : Entry Try.prog gl := entry1 80 ⟨Try.f80, by kernel_rfl, by kernel_rfl, by kernel_rfl⟩ SI (fun l => l.length < 1000000 /\ l ≠ []) false (fun l => [.sl I64 l]) (fun _ => []) (call80)
def goodAt (n : Int) (p : List Int) (k : Nat) : Prop := 1 <= p.getD k 0 /\ p.getD k 0 < 2 ^ n.toNat /\ (0 < k -> p.getD (k - 1) 0 < p.getD k 0) /\ ∀ j, j < p.length -> j ≠ k -> bAnd .i64 (p.getD k 0) (p.getD j 0) ≠ p.getD k 0
def cxOk (n : Int) (p : List Int) : Prop := numOk n /\ (1 <= p.length /\ p.length <= 10) /\ ∀ k, k < p.length -> goodAt n p k
def cxO (n : Int) (p : List Int) : Ob := .bx (.agg [.int .i64 n, .sl I64 p, .ar .bool 64 (mk (isF p))])
noncomputable def L53_0 : Code := lp (bodyOf Try.f53) 0
noncomputable def L53_2 : Code := lp (bodyOf Try.f53) 2
def st53 (n : Int) (p : List Int) (k : Nat) : St := ⟨.int .i64 n :: .sl I64 p :: dd 23 ++ .sl I64 p :: .int .i64 p.length :: .int .i64 k :: dd 56, []⟩
def inv53 (n : Int) (p : List Int) (k : Nat) : Prop := k <= p.length /\ ∀ i, i < k -> goodAt n p i
def ex53 (n : Int) (p : List Int) : List (List Nat × Ex) := [([0, 1], ⟨0, Unit, fun _ => ∀ k, k < p.length -> goodAt n p k, fun _ => ⟨.int .i64 n :: .sl I64 p :: dd 82, []⟩⟩)]
def h53 (n : Int) (p : List Int) : Hint := ⟨chk 0 [0, 1, 25, 26, 27] (inv53 n p) (st53 n p), (ex53 n p).map (·.2)⟩
def st53b (n : Int) (p : List Int) (k j : Nat) : St := ⟨.int .i64 n :: .sl I64 p :: dd 4 ++ .int .i64 k :: .int .i64 (p.getD k 0) :: dd 17 ++ .sl I64 p :: .int .i64 p.length :: .int .i64 k :: dd 26 ++ .sl I64 p :: .int .i64 p.length :: .int .i64 j :: dd 27, []⟩
def inv53b (p : List Int) (k j : Nat) : Prop := j <= p.length /\ ∀ i, i < j -> i ≠ k -> bAnd .i64 (p.getD k 0) (p.getD i 0) ≠ p.getD k 0
def ex53b (n : Int) (p : List Int) (k : Nat) : List (List Nat × Ex) := [([0, 1, 25, 26, 27], ⟨2, Unit, fun _ => ∀ i, i < p.length -> i ≠ k -> bAnd .i64 (p.getD k 0) (p.getD i 0) ≠ p.getD k 0, fun _ => st53 n p k⟩)]
def h53b (n : Int) (p : List Int) (k : Nat) : Hint := ⟨chk 0 [0, 1, 6, 7, 25, 26, 27, 54, 55, 56] (inv53b p k) (st53b n p k), (ex53b n p k).map (·.2)⟩
noncomputable def R53 (n : Int) (p : List Int) : Exit -> St -> Prop := fun e st => ¬ cxOk n p /\ RetR (X [e80, e62]) true false [.tmp 4, .tmp 5] [np, .int .i64 10] [] e st
theorem loop53b (n : Int) (p : List Int) (k : Nat) (hk : k < p.length) (hl : p.length <= 10) : LoopOK (X [e80, e62]) L53_2 (h53b n p k) (R53 n p) := by
 refine loop_ok (X_ok _) (H := fun _ _ => none) [0, 1, 6, 7, 25, 26, 27, 54, 55, 56] (inv53b p k) (st53b n p k) (fun j => p.length - j) (ex53b n p k) 120 fun (j : Nat) hj => ?_
 refine of_eq (q := (fun (f : Int) => (fun (e : Prop) => (fun (d : Int) => (fun (c : Int) => (fun (g : Prop) => (fun (b : Int) => (fun (a : Prop) => e /\ (f < b -> e /\ idxPre f p.length /\ e /\ e /\ e /\ e /\ e /\ e /\ e /\ (¬f = d -> e /\ e /\ e /\ e /\ e /\ e /\ (g -> e /\ e /\ ¬cxOk n p /\ e /\ (e /\ (10 : Int) = 10 /\ e) /\ e) /\ (¬g -> a)) /\ (¬¬f = d -> e /\ a)) /\ (¬f < b -> ∃ (y : Unit), (∀ (i : Nat), i < p.length -> ¬i = k -> ¬bAnd .i64 c (p.getD i (0 : Int)) = c) /\ (n = n /\ p = p /\ p = p /\ b = b /\ d = d /\ e) /\ e)) (inR .i64 (f + 1) /\ e /\ ∃ (y : Nat), (inv53b p k y /\ p.length - y < p.length - j) /\ (n = n /\ p = p /\ d = d /\ c = c /\ p = p /\ b = b /\ d = d /\ p = p /\ b = b /\ f + 1 = (y : Int) /\ e) /\ e)) ((p.length : Int))) (bAnd .i64 c (p.getD j (0 : Int)) = c)) (p.getD k (0 : Int))) ((k : Int))) (True)) ((j : Int))) (by kernel_rfl) ?_
 simp only [zz]
 obtain ⟨h1, h2⟩ := hj
 have hnext : (∀ h : j ≠ k, bAnd .i64 (p.getD k 0) (p.getD j 0) ≠ p.getD k 0) -> j < p.length -> inR .i64 ((j : Int) + 1) /\ ∃ y : Nat, (inv53b p k y /\ p.length - y < p.length - j) /\ (j : Int) + 1 = (y : Int) := fun h hj => by
   refine ⟨by simp only [inR]; omega, j + 1, ⟨⟨by omega, fun i hi hik => ?_⟩, by omega⟩, by omega⟩
   rcases Nat.lt_or_ge i j with h3 | h3
   · exact h2 i h3 hik
   · have : i = j := by omega
     subst this; exact h hik
 refine ⟨fun h => ⟨idx_nat (by omega), fun hne => ⟨fun hb hc => (hc.2.2 k hk).2.2.2 j (by omega) (by omega) hb, fun hb => hnext (fun _ => hb) (by omega)⟩, fun he => hnext (fun hh => absurd (by omega) hh) (by omega)⟩, fun h i hi hik => h2 i (by omega) hik⟩
theorem loop53 (n : Int) (p : List Int) (hn : numOk n) (hl : p.length <= 10) : LoopOK (X [e80, e62]) L53_0 (h53 n p) (R53 n p) := by
 refine loop_ok (X_ok _) (H := fun k _ => some (h53b n p k)) [0, 1, 25, 26, 27] (inv53 n p) (st53 n p) (fun k => p.length - k) (ex53 n p) 150 fun (k : Nat) hk => ?_
 have hb := fun h1 h2 => LoopOK.mono (R' := bodyR (X [e80, e62]).m0 (ex53 n p) (R53 n p)) (loop53b n p k h1 h2) fun st hr => hr
 refine of_eq (q := (fun (l : Nat) => (fun (h : Int) => (fun (g : Int) => (fun (f : Int) => (fun (e : Int) => (fun (j : Int) => (fun (d : Prop) => (fun (c : Int) => (fun (m : Prop) => (fun (b : Prop) => (fun (a : Prop) => d /\ (c < f -> d /\ idxPre c p.length /\ d /\ d /\ d /\ d /\ d /\ d /\ (j < h -> d /\ d /\ d /\ b) /\ (¬j < h -> d /\ d /\ inR .u64 n /\ ((e <= n /\ n < bitsOf .i64) /\ (-9223372036854775808 : Int) <= g /\ g <= 9223372036854775807) /\ d /\ d /\ d /\ (g <= j -> d /\ b) /\ (¬g <= j -> d /\ d /\ d /\ (e < c -> d /\ d /\ inR .i64 (c - h) /\ idxPre (c - h) p.length /\ d /\ d /\ d /\ d /\ d /\ (m -> b) /\ (¬m -> a)) /\ (¬e < c -> d /\ d /\ a)))) /\ (¬c < f -> ∃ (y : Unit), (∀ (k : Nat), k < l -> goodAt n p k) /\ (n = n /\ p = p /\ d) /\ d)) (d /\ d /\ d /\ LoopOK (X [e80, e62]) L53_2 (h53b n p k) (bodyR (X [e80, e62]).m0 (ex53 n p) (R53 n p)) /\ (∃ (y : Nat), inv53b p k y /\ (n = n /\ p = p /\ c = c /\ j = p.getD k e /\ p = p /\ f = f /\ c = c /\ p = p /\ (p.length : Int) = f /\ e = (y : Int) /\ d) /\ d) /\ (∀ (y : Unit), (∀ (i : Nat), i < l -> ¬i = k -> ¬bAnd .i64 (p.getD k e) (p.getD i e) = p.getD k e) -> inR .i64 (c + h) /\ d /\ ∃ (y : Nat), (inv53 n p y /\ l - y < l - k) /\ (n = n /\ p = p /\ p = p /\ f = f /\ c + h = (y : Int) /\ d) /\ d) /\ d)) (d /\ d /\ ¬cxOk n p /\ d /\ (d /\ (10 : Int) = 10 /\ d) /\ d)) (j <= p.getD (c - h).toNat e)) ((k : Int))) (True)) (p.getD k e)) ((0 : Int))) ((l : Int))) (h * 2 ^ n.toNat)) ((1 : Int))) (p.length)) (by kernel_rfl) ?_
 simp only [zz]
 obtain ⟨h1, h2⟩ := hk
 obtain ⟨e1, e2, e3⟩ := numOk_pow hn
 obtain ⟨n1, n2⟩ := hn
 rw [Int.one_mul]
 have hz : ∃ y : Nat, inv53b p k y /\ (0 : Int) = (y : Int) := ⟨0, ⟨Nat.zero_le _, fun i hi => absurd hi (Nat.not_lt_zero _)⟩, rfl⟩
 have hno : k < p.length -> ¬ goodAt n p k -> ¬ cxOk n p := fun hk hg hc => hg (hc.2.2 k hk)
 have hnext : goodAt n p k -> k < p.length -> inR .i64 ((k : Int) + 1) /\ ∃ y : Nat, (inv53 n p y /\ p.length - y < p.length - k) /\ (k : Int) + 1 = (y : Int) := fun h hj => by
   refine ⟨by simp only [inR]; omega, k + 1, ⟨⟨by omega, fun i hi => ?_⟩, by omega⟩, by omega⟩
   rcases Nat.lt_or_ge i k with h3 | h3
   · exact h2 i h3
   · have : i = k := by omega
     subst this; exact h
 refine ⟨fun h => ⟨idx_nat (by omega), fun h3 => hno (by omega) fun hg => by have := hg.1; omega, fun h3 => ⟨by simp only [inR]; omega, by simp only [bitsOf]; omega, fun h4 => hno (by omega) fun hg => by have := hg.2.1; omega, fun h4 => ⟨fun h5 => ⟨by simp only [inR]; omega, by unfold idxPre; omega, fun h6 => hno (by omega) fun hg => ?_, fun h6 => ⟨hb (by omega) hl, hz, fun _ h7 => hnext ⟨by omega, by omega, fun _ => ?_, h7⟩ (by omega)⟩⟩, fun h5 => ⟨hb (by omega) hl, hz, fun _ h7 => hnext ⟨by omega, by omega, fun h8 => by omega, h7⟩ (by omega)⟩⟩⟩⟩, fun h i hi => h2 i (by omega)⟩
 · have := hg.2.2.1 (by omega)
   rw [show ((k : Int) - 1).toNat = k - 1 by omega] at h6
   omega
 · rw [show ((k : Int) - 1).toNat = k - 1 by omega] at h6
   omega
theorem cxOk.ok {n : Int} {p : List Int} (h : cxOk n p) : okL p := fun s hs => by
 obtain ⟨k, hk, rfl⟩ := List.getElem_of_mem hs
 obtain ⟨h1, h2, _⟩ := h.2.2 k hk
 obtain ⟨e1, e2, e3⟩ := numOk_pow h.1
 rw [getD_lt hk] at h1 h2
 omega
theorem call53 (n : Int) (p : List Int) (h : cxOk n p) : GCall Try.prog gl 53 false [.int .i64 n, .sl I64 p] [] [.ptr 0 0 [], .int .i64 0] [cxO n p] := by
 refine gcall_of (X := X [e80, e62]) (X_ok [e80, e62]) (f := 53) (fn := Try.f53) (c := bodyOf Try.f53) (by kernel_rfl) (by kernel_rfl) (view := false) (rvs := [.tmp 4, .tmp 5]) (by kernel_rfl) (H := (fun _ => some (h53 n p))) 150 (by kernel_rfl) ?_
 have hL := LoopOK.mono (R' := RetR (X [e80, e62]) false false [.tmp 4, .tmp 5] [.ptr 0 0 [], .int .i64 0] [cxO n p]) (loop53 n p h.1 h.2.1.2) fun st hr => absurd h hr.1
 refine of_eq (q := (fun (f : Int) => (fun (e : Int) => (fun (b : Int) => (fun (a : Prop) => (fun (d : Prop) => (fun (c : Prop) => a /\ a /\ a /\ a /\ a /\ (n < f -> a /\ d) /\ (¬n < f -> a /\ a /\ a /\ ((6 : Int) < n -> d) /\ (¬(6 : Int) < n -> a /\ a /\ a /\ a /\ (b < f -> a /\ c) /\ (¬b < f -> a /\ a /\ a /\ a /\ ((10 : Int) < b -> c) /\ (¬(10 : Int) < b -> a /\ a /\ a /\ LoopOK (X [e80, e62]) L53_0 (h53 n p) (RetR (X [e80, e62]) false false [ResultVar.tmp (4 : Tmp), ResultVar.tmp (5 : Tmp)] [AV.ptr (0 : Nat) (0 : Nat) [], AV.int .i64 e] [cxO n p]) /\ (∃ (y : Nat), inv53 n p y /\ (n = n /\ p = p /\ p = p /\ b = (p.length : Int) /\ e = (y : Int) /\ a) /\ a) /\ (∀ (y : Unit), (∀ (k : Nat), k < p.length -> goodAt n p k) -> a /\ a /\ ((p.length < 1000000 /\ ¬p = []) /\ a) /\ a /\ a /\ a /\ a /\ a /\ ((okL p /\ p.length < 1000000) /\ a) /\ a /\ a /\ a /\ a /\ a /\ a /\ a /\ (a /\ e = e /\ a) /\ (n = n /\ p = p /\ mk (isF p) = mk (isF p) /\ a) /\ a) /\ a))))) (a /\ a /\ a /\ (False /\ (10 : Int) = e /\ a) /\ False)) (a /\ a /\ a /\ (False /\ f = e /\ a) /\ False)) (True)) ((p.length : Int))) ((0 : Int))) ((1 : Int))) (by kernel_rfl) ?_
 simp only [zz]
 obtain ⟨h1, h2, h3⟩ := h
 obtain ⟨n1, n2⟩ := h1
 have hp := cxOk.ok ⟨⟨n1, n2⟩, h2, h3⟩
 refine ⟨by omega, fun _ => ⟨by omega, fun _ => ⟨by omega, fun _ => ⟨by omega, fun _ => ⟨hL, ⟨0, ⟨Nat.zero_le _, fun i hi => absurd hi (Nat.not_lt_zero _)⟩, rfl⟩, fun _ _ => ⟨⟨by omega, fun e => ?_⟩, hp, by omega⟩⟩⟩⟩⟩⟩
 subst e; simp at h2
end Go.Am.Sh

/- Shells: lists of faces, counts. -/
namespace Go.Am.Sh
open Go Go.Am Go.Proofs
def trueN (g : Nat -> Bool) : Nat -> List Int
 | 0 => []
 | k + 1 => if g k then trueN g k ++ [(k : Int)] else trueN g k
theorem trueN_len (g : Nat -> Bool) : ∀ k, (trueN g k).length <= k
 | 0 => Nat.le_refl _
 | k + 1 => by
   have := trueN_len g k
   rw [trueN]; split
   · rw [List.length_append, List.length_singleton]; omega
   · omega
theorem trueN_mem {g : Nat -> Bool} : ∀ {k : Nat} {x : Int}, x ∈ trueN g k -> ∃ n : Nat, x = n /\ n < k /\ g n = true
 | 0, x, h => by simp [trueN] at h
 | k + 1, x, h => by
   rw [trueN] at h
   split at h
   · rename_i hg
     rcases List.mem_append.mp h with h | h
     · obtain ⟨n, h1, h2, h3⟩ := trueN_mem h
       exact ⟨n, h1, by omega, h3⟩
     · exact ⟨k, by simpa using h, by omega, hg⟩
   · obtain ⟨n, h1, h2, h3⟩ := trueN_mem h
     exact ⟨n, h1, by omega, h3⟩
theorem trueN_ext {f g : Nat -> Bool} : ∀ {k : Nat}, (∀ x, x < k -> f x = g x) -> trueN f k = trueN g k
 | 0, _ => rfl
 | k + 1, h => by
   rw [trueN, trueN, h k (by omega), trueN_ext fun x hx => h x (by omega)]
theorem trueN_ok (g : Nat -> Bool) : okL (trueN g 64) := fun s hs => by
 obtain ⟨n, rfl, h, _⟩ := trueN_mem hs
 omega
def gB (xs : List Bool) (x : Nat) : Bool := xs.getD x false
theorem trueN_mk (g : Nat -> Bool) : trueN (gB (mk g)) 64 = trueN g 64 := trueN_ext fun x hx => mk_getD hx
noncomputable def L66_0 : Code := lp (bodyOf Try.f66) 0
def sz66 (xs : List Bool) (k : Nat) : St := ⟨dd 3 ++ nl :: dd 2 ++ .ar .bool 64 xs :: .int .i64 k :: dd 10, []⟩
def st66 (xs : List Bool) (k : Nat) : St := ⟨dd 3 ++ .own 0 0 :: dd 2 ++ .ar .bool 64 xs :: .int .i64 k :: dd 10, [.sc 0 3 I64 (trueN (gB xs) k)]⟩
def fm66 (xs : List Bool) : List Fam := [⟨Nat, fun k => k <= 64 /\ trueN (gB xs) k = [], sz66 xs, fun k => 64 - k, fun _ _ => none⟩, ⟨Nat, fun k => k <= 64, st66 xs, fun k => 64 - k, fun _ _ => none⟩]
def ex66 (xs : List Bool) : List (List Nat × Ex) := [([3], ⟨0, Unit, fun _ => trueN (gB xs) 64 = [], fun _ => ⟨dd 3 ++ nl :: dd 14, []⟩⟩), ([3], ⟨0, Unit, fun _ => True, fun _ => ⟨dd 3 ++ .own 0 0 :: dd 14, [.sc 0 3 I64 (trueN (gB xs) 64)]⟩⟩)]
noncomputable def H66 (xs : List Bool) : Nat -> Option Hint := fun _ => some ⟨chks 0 [3, 6, 7] (fm66 xs), (ex66 xs).map (·.2)⟩
theorem loop66 (xs : List Bool) (R : Exit -> St -> Prop) : LoopOK (X []) L66_0 ⟨chks 0 [3, 6, 7] (fm66 xs), (ex66 xs).map (·.2)⟩ R := by
 refine loop_fams (X_ok []) [3, 6, 7] (fm66 xs) (ex66 xs) 80 ⟨fun (k : Nat) hk => ?_, fun (k : Nat) hk => ?_, trivial⟩
 · refine of_eq (q := (fun (d : Int) => (fun (c : Prop) => (fun (b : Nat) => (fun (a : Int) => c /\ (d < 64 -> c /\ idxPre d b /\ c /\ c /\ c /\ (xs.getD k false = true -> c /\ c /\ c /\ sumPre (0 : Nat) [d].length (nat_lit 8) /\ c /\ inR .i64 a /\ c /\ ((∃ (y : Nat), ((y <= b /\ trueN (gB xs) y = []) /\ b - y < b - k) /\ (False /\ xs = xs /\ a = (y : Int) /\ c) /\ c) ∨ ∃ (y : Nat), (y <= b /\ b - y < b - k) /\ (c /\ xs = xs /\ a = (y : Int) /\ c) /\ [d] = trueN (gB xs) y /\ c)) /\ (xs.getD k false = false -> inR .i64 a /\ c /\ ((∃ (y : Nat), ((y <= b /\ trueN (gB xs) y = []) /\ b - y < b - k) /\ (c /\ xs = xs /\ a = (y : Int) /\ c) /\ c) ∨ ∃ (y : Nat), (y <= b /\ b - y < b - k) /\ (False /\ xs = xs /\ a = (y : Int) /\ c) /\ False))) /\ (¬d < 64 -> (∃ (y : Unit), trueN (gB xs) b = [] /\ (c /\ c) /\ c) ∨ ∃ (y : Unit), c /\ (False /\ c) /\ False)) (d + 1)) ((64 : Nat))) (True)) ((k : Int))) (by kernel_rfl) ?_
   simp only [zz]
   obtain ⟨k1, k2⟩ := hk
   refine ⟨fun h => ⟨by unfold idxPre; omega, fun h2 => ⟨by unfold sumPre; simp, by simp only [inR]; omega, k + 1, by omega, by omega, ?_⟩, fun h2 => ⟨by simp only [inR]; omega, k + 1, ⟨⟨by omega, ?_⟩, by omega⟩, by omega⟩⟩, fun h => ?_⟩
   · rw [trueN, show gB xs k = true from h2, k2]; try rfl
   · rw [trueN, show gB xs k = false from h2, k2]; try rfl
   · rw [show 64 = k by omega, k2]
 · refine of_eq (q := (fun (e : Prop) => (fun (d : List Int) => (fun (c : Nat) => (fun (b : Int) => (fun (f : Int) => (fun (a : Prop) => e /\ (b < 64 -> e /\ idxPre b c /\ e /\ e /\ e /\ (xs.getD k false = true -> e /\ e /\ e /\ sumPre d.length [b].length (nat_lit 8) /\ e /\ inR .i64 f /\ e /\ (a ∨ ∃ (y : Nat), (y <= c /\ c - y < c - k) /\ (e /\ xs = xs /\ f = (y : Int) /\ e) /\ d ++ [b] = trueN (gB xs) y /\ e)) /\ (xs.getD k false = false -> inR .i64 f /\ e /\ (a ∨ ∃ (y : Nat), (y <= c /\ c - y < c - k) /\ (e /\ xs = xs /\ f = (y : Int) /\ e) /\ d = trueN (gB xs) y /\ e))) /\ (¬b < 64 -> (∃ (y : Unit), trueN (gB xs) c = [] /\ (False /\ e) /\ e) ∨ ∃ (y : Unit), e /\ (e /\ e) /\ d = trueN (gB xs) c /\ e)) (∃ (y : Nat), ((y <= c /\ trueN (gB xs) y = []) /\ c - y < c - k) /\ (False /\ xs = xs /\ f = (y : Int) /\ e) /\ e)) (b + 1)) ((k : Int))) ((64 : Nat))) (trueN (gB xs) k)) (True)) (by kernel_rfl) ?_
   simp only [zz]
   have hk : k <= 64 := hk
   have hf := trueN_len (gB xs) k
   refine ⟨fun h => ⟨by unfold idxPre; omega, fun h2 => ⟨by unfold sumPre; simp; omega, by simp only [inR]; omega, k + 1, by omega, by omega, ?_⟩, fun h2 => ⟨by simp only [inR]; omega, k + 1, by omega, by omega, ?_⟩⟩, fun h => ?_⟩
   · rw [trueN, show gB xs k = true from h2]; try rfl
   · rw [trueN, show gB xs k = false from h2]; try rfl
   · rw [show 64 = k by omega]
theorem call66 (xs : List Bool) (h : xs.length = 64) : GCall Try.prog gl 66 false [.ar .bool 64 xs] [] [.sl I64 (trueN (gB xs) 64)] [] := by
 refine gcall_of (X := X []) (X_ok []) (f := 66) (fn := Try.f66) (c := bodyOf Try.f66) (by kernel_rfl) (by kernel_rfl) (view := true) (rvs := [.tmp 2]) (by kernel_rfl) (H := (H66 xs)) 80 (by kernel_rfl) ?_
 have hL := loop66 xs
 refine of_eq (q := (fun (b : Prop) => (fun (a : List Int) => b /\ b /\ b /\ b /\ b /\ LoopOK (X []) L66_0 { J := chks (0 : Nat) [(3 : Nat), (6 : Nat), (7 : Nat)] (fm66 xs), exits := List.map (fun (x : List Nat × Ex) => x.snd) (ex66 xs) } (RetR (X []) false true [ResultVar.tmp (2 : Tmp)] [AV.sl I64 a] []) /\ ((∃ (y : Nat), (y <= 64 /\ trueN (gB xs) y = []) /\ (b /\ xs = xs /\ (0 : Int) = (y : Int) /\ b) /\ b) ∨ ∃ (y : Nat), y <= 64 /\ (False /\ xs = xs /\ (0 : Int) = (y : Int) /\ b) /\ False) /\ (∀ (y : Unit), a = [] -> b /\ b /\ b /\ (([] : List Int) = a /\ b) /\ b) /\ (∀ (y : Unit), b -> b /\ b /\ b /\ (a = a /\ b) /\ b) /\ b) (trueN (gB xs) (64 : Nat))) (True)) (by kernel_rfl) ?_
 simp only [zz]
 exact ⟨hL _, ⟨0, ⟨by omega, rfl⟩, rfl⟩, fun _ h => h.symm, fun _ _ => trivial⟩
def e66 : Entry Try.prog gl := entry1 66 ⟨Try.f66, by kernel_rfl, by kernel_rfl, by kernel_rfl⟩ FA (fun xs => (xs : List Bool).length = 64) false (fun xs => [.sl I64 (trueN (gB xs) 64)]) (fun _ => []) (call66)
def eulN (g : Nat -> Bool) : Nat -> Int
 | 0 => 0
 | k + 1 => if g k && decide (0 < k) then eulN g k + (2 * ((pc k : Int).tmod 2) - 1) else eulN g k
theorem eulN_le (g : Nat -> Bool) : ∀ k : Nat, -(k : Int) <= eulN g k /\ eulN g k <= k
 | 0 => by simp [eulN]
 | k + 1 => by
   have := eulN_le g k
   have h2 : (pc k : Int).tmod 2 = (pc k : Int) % 2 := Int.tmod_eq_emod_of_nonneg (by omega)
   rw [eulN, h2]
   split <;> omega
noncomputable def L71_0 : Code := lp (bodyOf Try.f71) 0
def st71 (xs : List Bool) (k : Nat) : St := ⟨dd 3 ++ .int .i64 (eulN (gB xs) k) :: dd 2 ++ .ar .bool 64 xs :: .int .i64 k :: dd 17, []⟩
def inv71 (k : Nat) : Prop := k <= 64
def ex71 (xs : List Bool) : List (List Nat × Ex) := [([3], ⟨0, Unit, fun _ => True, fun _ => ⟨dd 3 ++ .int .i64 (eulN (gB xs) 64) :: dd 21, []⟩⟩)]
noncomputable def H71 (xs : List Bool) : Nat -> Option Hint := fun _ => some ⟨chk 0 [3, 6, 7] inv71 (st71 xs), (ex71 xs).map (·.2)⟩
theorem loop71 (xs : List Bool) (R : Exit -> St -> Prop) : LoopOK (X [e64]) L71_0 ⟨chk 0 [3, 6, 7] inv71 (st71 xs), (ex71 xs).map (·.2)⟩ R := by
 refine loop_ok (X_ok _) (H := fun _ _ => none) [3, 6, 7] inv71 (st71 xs) (fun k => 64 - k) (ex71 xs) 100 fun (k : Nat) hk => ?_
 refine of_eq (q := (fun (g : Nat) => (fun (f : Int) => (fun (e : Prop) => (fun (d : Int) => (fun (c : Int) => (fun (b : Int) => (fun (a : Prop) => e /\ (c < 64 -> e /\ idxPre c g /\ e /\ e /\ e /\ e /\ (xs.getD k false = true -> e /\ e /\ e /\ ((0 : Int) < c -> e /\ e /\ (((0 : Int) <= c /\ c < 64) /\ e) /\ ¬(2 : Int) = 0 /\ inR .i64 b /\ inR .i64 (b - f) /\ inR .i64 (d + (b - f)) /\ e /\ inR .i64 (c + f) /\ e /\ ∃ (y : Nat), (inv71 y /\ g - y < g - k) /\ (d + (b - f) = eulN (gB xs) y /\ xs = xs /\ c + f = (y : Int) /\ e) /\ e) /\ (¬(0 : Int) < c -> a)) /\ (xs.getD k false = false -> e /\ a)) /\ (¬c < 64 -> ∃ (y : Unit), e /\ (d = eulN (gB xs) g /\ e) /\ e)) (inR .i64 (c + f) /\ e /\ ∃ (y : Nat), (inv71 y /\ g - y < g - k) /\ (d = eulN (gB xs) y /\ xs = xs /\ c + f = (y : Int) /\ e) /\ e)) ((2 : Int) * (↑(pc k) : Int).tmod (2 : Int))) ((k : Int))) (eulN (gB xs) k)) (True)) ((1 : Int))) ((64 : Nat))) (by kernel_rfl) ?_
 simp only [zz]
 have hk : k <= 64 := hk
 have hf := eulN_le (gB xs) k
 have h2 : (pc k : Int).tmod 2 = (pc k : Int) % 2 := Int.tmod_eq_emod_of_nonneg (by omega)
 have hn : ∀ z : Int, z = eulN (gB xs) (k + 1) -> k < 64 -> inR .i64 ((k : Int) + 1) /\ ∃ y : Nat, (inv71 y /\ 64 - y < 64 - k) /\ z = eulN (gB xs) y /\ (k : Int) + 1 = (y : Int) := fun z hz hk => ⟨by simp only [inR]; omega, k + 1, ⟨by unfold inv71; omega, by omega⟩, hz, by omega⟩
 refine ⟨fun h => ⟨by unfold idxPre; omega, fun hg => ⟨fun h0 => ⟨by omega, by decide, by simp only [inR]; omega, by simp only [inR]; omega, by simp only [inR]; omega, hn _ ?_ (by omega)⟩, fun h0 => hn _ ?_ (by omega)⟩, fun hg => hn _ ?_ (by omega)⟩, fun h => by rw [show k = 64 by omega]⟩
 · rw [eulN, show gB xs k = true from hg]; simp [show 0 < k by omega]
 · rw [eulN, show gB xs k = true from hg]; simp [show ¬ 0 < k by omega]
 · rw [eulN, show gB xs k = false from hg]; simp
theorem call71 (xs : List Bool) (h : xs.length = 64) : GCall Try.prog gl 71 true [.ar .bool 64 xs] [] [.int .i64 (eulN (gB xs) 64)] [] := by
 refine gcall_of (X := X [e64]) (X_ok [e64]) (f := 71) (fn := Try.f71) (c := bodyOf Try.f71) (by kernel_rfl) (by kernel_rfl) (view := false) (rvs := [.tmp 2]) (by kernel_rfl) (H := (H71 xs)) 80 (by kernel_rfl) ?_
 have hL := loop71 xs
 refine of_eq (q := (fun (b : Prop) => (fun (a : Int) => b /\ b /\ b /\ b /\ b /\ LoopOK (X [e64]) L71_0 { J := chk (0 : Nat) [(3 : Nat), (6 : Nat), (7 : Nat)] inv71 (st71 xs), exits := List.map (fun (x : List Nat × Ex) => x.snd) (ex71 xs) } (RetR (X [e64]) true false [ResultVar.tmp (2 : Tmp)] [AV.int .i64 a] []) /\ (∃ (y : Nat), inv71 y /\ ((0 : Int) = eulN (gB xs) y /\ xs = xs /\ (0 : Int) = (y : Int) /\ b) /\ b) /\ (∀ (y : Unit), b -> b /\ b /\ b /\ (a = a /\ b) /\ b) /\ b) (eulN (gB xs) (64 : Nat))) (True)) (by kernel_rfl) ?_
 simp only [zz]
 exact ⟨hL _, ⟨0, Nat.zero_le _, rfl, rfl⟩, fun _ _ => trivial⟩
def e71 : Entry Try.prog gl := entry1 71 ⟨Try.f71, by kernel_rfl, by kernel_rfl, by kernel_rfl⟩ FA (fun xs => (xs : List Bool).length = 64) true (fun xs => [.int .i64 (eulN (gB xs) 64)]) (fun _ => []) (call71)
/-- A face that is a part of no other one. -/
def grtB (g : Nat -> Bool) (x : Nat) : Bool := g x && (List.range 6).all fun v => decide (x ||| 2 ^ v = x) || !g (x ||| 2 ^ v)
def grtK (g : Nat -> Bool) (x k : Nat) : Bool := (List.range k).all fun v => decide (x ||| 2 ^ v = x) || !g (x ||| 2 ^ v)
theorem grtK_succ (g : Nat -> Bool) (x k : Nat) : grtK g x (k + 1) = (grtK g x k && (decide (x ||| 2 ^ k = x) || !g (x ||| 2 ^ k))) := by
 unfold grtK; rw [List.range_succ, List.all_append]; simp
theorem grtK_false {g : Nat -> Bool} {x k : Nat} (hk : k < 6) (h : (decide (x ||| 2 ^ k = x) || !g (x ||| 2 ^ k)) = false) : grtB g x = false := by
 unfold grtB
 rw [Bool.and_eq_false_iff]; right
 rw [List.all_eq_false]
 exact ⟨k, by simpa using hk, by rw [h]; simp⟩
theorem or_lt : ∀ x : Fin 64, ∀ v : Fin 6, x.val ||| 2 ^ v.val < 64 := by decide +kernel
theorem or_pow {x v : Nat} (hx : x < 64) (hv : v < 6) : bOr .i64 (x : Int) (1 * 2 ^ v) = ((x ||| 2 ^ v : Nat) : Int) /\ x ||| 2 ^ v < 64 := by
 have h1 := or_lt ⟨x, hx⟩ ⟨v, hv⟩
 have h2 : 2 ^ v < 2 ^ 6 := Nat.pow_lt_pow_right (by decide) hv
 refine ⟨?_, h1⟩
 have e : (1 * 2 ^ v : Int) = ((2 ^ v : Nat) : Int) := by rw [Int.one_mul, Int.natCast_pow]; try rfl
 rw [e, bOr_nat (by omega) (by omega)]
noncomputable def L70_0 : Code := lp (bodyOf Try.f70) 0
noncomputable def L70_2 : Code := lp (bodyOf Try.f70) 2
def ob70 (xs : List Bool) : Ob := .bx (.ar .bool 64 xs)
def sz70 (xs : List Bool) (k : Nat) : St := ⟨.dead :: .ptr 0 0 [] :: .dead :: nl :: dd 4 ++ .ar .bool 64 xs :: .int .i64 k :: dd 28, [ob70 xs]⟩
def st70 (xs : List Bool) (k : Nat) : St := ⟨.dead :: .ptr 0 0 [] :: .dead :: .own 1 0 :: dd 4 ++ .ar .bool 64 xs :: .int .i64 k :: dd 28, [ob70 xs, .sc 0 3 I64 (trueN (grtB (gB xs)) k)]⟩
def jz70 (xs : List Bool) (k v : Nat) : St := ⟨.dead :: .ptr 0 0 [] :: .dead :: nl :: .int .i64 k :: dd 3 ++ .ar .bool 64 xs :: .int .i64 k :: dd 5 ++ .int .i64 v :: dd 22, [ob70 xs]⟩
def jt70 (xs : List Bool) (k v : Nat) : St := ⟨.dead :: .ptr 0 0 [] :: .dead :: .own 1 0 :: .int .i64 k :: dd 3 ++ .ar .bool 64 xs :: .int .i64 k :: dd 5 ++ .int .i64 v :: dd 22, [ob70 xs, .sc 0 3 I64 (trueN (grtB (gB xs)) k)]⟩
def inv70 (xs : List Bool) (k v : Nat) : Prop := v <= 6 /\ grtK (gB xs) k v = true
def ejz70 (xs : List Bool) (k : Nat) : List (List Nat × Ex) := [([1, 3, 4, 8, 9], ⟨2, Unit, fun _ => grtK (gB xs) k 6 = true, fun _ => ⟨.dead :: .ptr 0 0 [] :: .dead :: nl :: .int .i64 k :: dd 3 ++ .ar .bool 64 xs :: .int .i64 k :: dd 28, [ob70 xs]⟩⟩), ([1, 3, 8, 9], ⟨1, Unit, fun _ => grtB (gB xs) k = false, fun _ => sz70 xs k⟩)]
def ejt70 (xs : List Bool) (k : Nat) : List (List Nat × Ex) := [([1, 3, 4, 8, 9], ⟨2, Unit, fun _ => grtK (gB xs) k 6 = true, fun _ => ⟨.dead :: .ptr 0 0 [] :: .dead :: .own 1 0 :: .int .i64 k :: dd 3 ++ .ar .bool 64 xs :: .int .i64 k :: dd 28, [ob70 xs, .sc 0 3 I64 (trueN (grtB (gB xs)) k)]⟩⟩), ([1, 3, 8, 9], ⟨1, Unit, fun _ => grtB (gB xs) k = false, fun _ => st70 xs k⟩)]
def hz70 (xs : List Bool) (k : Nat) : Hint := ⟨chk 0 [1, 3, 4, 8, 9, 15] (inv70 xs k) (jz70 xs k), (ejz70 xs k).map (·.2)⟩
def ht70 (xs : List Bool) (k : Nat) : Hint := ⟨chk 0 [1, 3, 4, 8, 9, 15] (inv70 xs k) (jt70 xs k), (ejt70 xs k).map (·.2)⟩
theorem loop70z (xs : List Bool) (k : Nat) (hk : k < 64) (hg : gB xs k = true) (R : Exit -> St -> Prop) : LoopOK (X []) L70_2 (hz70 xs k) R := by
 refine loop_ok (X_ok _) (H := fun _ _ => none) [1, 3, 4, 8, 9, 15] (inv70 xs k) (jz70 xs k) (fun v => 6 - v) (ejz70 xs k) 100 fun (v : Nat) hv => ?_
 refine of_eq (q := (fun (g : Prop) => (fun (f : Int) => (fun (e : Int) => (fun (d : Prop) => (fun (c : Int) => (fun (b : Int) => (fun (a : Prop) => d /\ (e < 6 -> d /\ d /\ d /\ d /\ inR .u64 e /\ (((0 : Int) <= e /\ e < bitsOf .i64) /\ (-9223372036854775808 : Int) <= f /\ f <= 9223372036854775807) /\ d /\ d /\ d /\ d /\ d /\ d /\ (¬b = c -> d /\ idxPre b (64 : Nat) /\ d /\ d /\ (xs.getD b.toNat false = true -> ∃ (y : Unit), grtB (gB xs) k = false /\ (d /\ d /\ g /\ c = c /\ d) /\ g /\ d) /\ (xs.getD b.toNat false = false -> a)) /\ (¬¬b = c -> d /\ a)) /\ (¬e < 6 -> ∃ (y : Unit), grtK (gB xs) k (6 : Nat) = true /\ (d /\ d /\ c = c /\ g /\ c = c /\ d) /\ g /\ d)) (inR .i64 (e + 1) /\ d /\ ∃ (y : Nat), (inv70 xs k y /\ (6 : Nat) - y < 6 - v) /\ (d /\ d /\ c = c /\ g /\ c = c /\ e + 1 = (y : Int) /\ d) /\ g /\ d)) (bOr .i64 c f)) ((k : Int))) (True)) ((v : Int))) ((1 : Int) * 2 ^ v)) (xs = xs)) (by kernel_rfl) ?_
 simp only [zz]
 obtain ⟨v1, v2⟩ := hv
 have hi : v < 6 -> (0 <= (v : Int) /\ (v : Int) < bitsOf .i64) /\ -9223372036854775808 <= (1 * 2 ^ v : Int) /\ (1 * 2 ^ v : Int) <= 9223372036854775807 := fun h => by
   have h2 : 2 ^ v < 2 ^ 6 := Nat.pow_lt_pow_right (by decide) h
   have e : (2 ^ v : Int) = ((2 ^ v : Nat) : Int) := by rw [Int.natCast_pow]; try rfl
   have h3 : (0 : Int) <= 2 ^ v := by rw [e]; exact Int.natCast_nonneg _
   have h4 : (2 ^ v : Int) < 64 := by rw [e]; exact_mod_cast h2
   simp only [bitsOf]; omega
 have hn : v < 6 -> (decide (k ||| 2 ^ v = k) || !gB xs (k ||| 2 ^ v)) = true -> inR .i64 ((v : Int) + 1) /\ ∃ y : Nat, (inv70 xs k y /\ 6 - y < 6 - v) /\ (v : Int) + 1 = (y : Int) := fun h hb => ⟨by simp only [inR]; omega, v + 1, ⟨⟨by omega, by rw [grtK_succ, v2, hb]; rfl⟩, by omega⟩, by omega⟩
 refine ⟨fun h => ?_, fun h => by rw [show 6 = v by omega]; exact v2⟩
 obtain ⟨e1, e2⟩ := or_pow hk (v := v) (by omega)
 rw [e1, Int.toNat_natCast]
 refine ⟨by simp only [inR]; omega, hi (by omega), fun h3 => ⟨by unfold idxPre; omega, fun h4 => grtK_false (k := v) (by omega) ?_, fun h4 => hn (by omega) ?_⟩, fun h3 => hn (by omega) ?_⟩
 · have h5 : gB xs (k ||| 2 ^ v) = true := h4
   have h6 : ¬ (k ||| 2 ^ v) = k := fun e => h3 (by rw [e])
   rw [h5]; simp [h6]
 · have h5 : gB xs (k ||| 2 ^ v) = false := h4
   rw [h5]; simp
 · simp; left; omega
theorem loop70t (xs : List Bool) (k : Nat) (hk : k < 64) (hg : gB xs k = true) (R : Exit -> St -> Prop) : LoopOK (X []) L70_2 (ht70 xs k) R := by
 refine loop_ok (X_ok _) (H := fun _ _ => none) [1, 3, 4, 8, 9, 15] (inv70 xs k) (jt70 xs k) (fun v => 6 - v) (ejt70 xs k) 100 fun (v : Nat) hv => ?_
 refine of_eq (q := (fun (g : Int) => (fun (f : Int) => (fun (e : Prop) => (fun (d : Int) => (fun (c : Prop) => (fun (b : Int) => (fun (a : Prop) => e /\ (f < 6 -> e /\ e /\ e /\ e /\ inR .u64 f /\ (((0 : Int) <= f /\ f < bitsOf .i64) /\ (-9223372036854775808 : Int) <= g /\ g <= 9223372036854775807) /\ e /\ e /\ e /\ e /\ e /\ e /\ (¬b = d -> e /\ idxPre b (64 : Nat) /\ e /\ e /\ (xs.getD b.toNat false = true -> ∃ (y : Unit), grtB (gB xs) k = false /\ (e /\ e /\ xs = xs /\ d = d /\ e) /\ c) /\ (xs.getD b.toNat false = false -> a)) /\ (¬¬b = d -> e /\ a)) /\ (¬f < 6 -> ∃ (y : Unit), grtK (gB xs) k (6 : Nat) = true /\ (e /\ e /\ d = d /\ xs = xs /\ d = d /\ e) /\ c)) (inR .i64 (f + 1) /\ e /\ ∃ (y : Nat), (inv70 xs k y /\ (6 : Nat) - y < 6 - v) /\ (e /\ e /\ d = d /\ xs = xs /\ d = d /\ f + 1 = (y : Int) /\ e) /\ c)) (bOr .i64 d g)) (xs = xs /\ trueN (grtB (gB xs)) k = trueN (grtB (gB xs)) k /\ e)) ((k : Int))) (True)) ((v : Int))) ((1 : Int) * 2 ^ v)) (by kernel_rfl) ?_
 simp only [zz]
 obtain ⟨v1, v2⟩ := hv
 have hi : v < 6 -> (0 <= (v : Int) /\ (v : Int) < bitsOf .i64) /\ -9223372036854775808 <= (1 * 2 ^ v : Int) /\ (1 * 2 ^ v : Int) <= 9223372036854775807 := fun h => by
   have h2 : 2 ^ v < 2 ^ 6 := Nat.pow_lt_pow_right (by decide) h
   have e : (2 ^ v : Int) = ((2 ^ v : Nat) : Int) := by rw [Int.natCast_pow]; try rfl
   have h3 : (0 : Int) <= 2 ^ v := by rw [e]; exact Int.natCast_nonneg _
   have h4 : (2 ^ v : Int) < 64 := by rw [e]; exact_mod_cast h2
   simp only [bitsOf]; omega
 have hn : v < 6 -> (decide (k ||| 2 ^ v = k) || !gB xs (k ||| 2 ^ v)) = true -> inR .i64 ((v : Int) + 1) /\ ∃ y : Nat, (inv70 xs k y /\ 6 - y < 6 - v) /\ (v : Int) + 1 = (y : Int) := fun h hb => ⟨by simp only [inR]; omega, v + 1, ⟨⟨by omega, by rw [grtK_succ, v2, hb]; rfl⟩, by omega⟩, by omega⟩
 refine ⟨fun h => ?_, fun h => by rw [show 6 = v by omega]; exact v2⟩
 obtain ⟨e1, e2⟩ := or_pow hk (v := v) (by omega)
 rw [e1, Int.toNat_natCast]
 refine ⟨by simp only [inR]; omega, hi (by omega), fun h3 => ⟨by unfold idxPre; omega, fun h4 => grtK_false (k := v) (by omega) ?_, fun h4 => hn (by omega) ?_⟩, fun h3 => hn (by omega) ?_⟩
 · have h5 : gB xs (k ||| 2 ^ v) = true := h4
   have h6 : ¬ (k ||| 2 ^ v) = k := fun e => h3 (by rw [e])
   rw [h5]; simp [h6]
 · have h5 : gB xs (k ||| 2 ^ v) = false := h4
   rw [h5]; simp
 · simp; left; omega
noncomputable def fm70 (xs : List Bool) : List Fam := [⟨Nat, fun k => k <= 64 /\ trueN (grtB (gB xs)) k = [], sz70 xs, fun k => 64 - k, fun k _ => some (hz70 xs k)⟩, ⟨Nat, fun k => k <= 64, st70 xs, fun k => 64 - k, fun k _ => some (ht70 xs k)⟩]
def ex70 (xs : List Bool) : List (List Nat × Ex) := [([3], ⟨0, Unit, fun _ => trueN (grtB (gB xs)) 64 = [], fun _ => ⟨dd 3 ++ nl :: dd 34, []⟩⟩), ([3], ⟨0, Unit, fun _ => True, fun _ => ⟨dd 3 ++ .own 0 0 :: dd 34, [.sc 0 3 I64 (trueN (grtB (gB xs)) 64)]⟩⟩)]
noncomputable def H70 (xs : List Bool) : Nat -> Option Hint := fun _ => some ⟨chks 0 [1, 3, 8, 9] (fm70 xs), (ex70 xs).map (·.2)⟩
theorem loop70 (xs : List Bool) (R : Exit -> St -> Prop) : LoopOK (X []) L70_0 ⟨chks 0 [1, 3, 8, 9] (fm70 xs), (ex70 xs).map (·.2)⟩ R := by
 refine loop_fams (X_ok []) [1, 3, 8, 9] (fm70 xs) (ex70 xs) 120 ⟨fun (k : Nat) hk => ?_, fun (k : Nat) hk => ?_, trivial⟩
 · have hL := fun h1 h2 => loop70z xs k h1 h2
   refine of_eq (q := (fun (f : Prop) => (fun (d : Prop) => (fun (c : Nat) => (fun (b : Int) => (fun (e : Int) => (fun (a : Prop) => d /\ (b < 64 -> d /\ idxPre b c /\ d /\ d /\ d /\ d /\ ((!xs.getD k false) = true -> a) /\ ((!xs.getD k false) = false -> d /\ LoopOK (X []) L70_2 (hz70 xs k) (bodyR (X []).m0 (ex70 xs) R) /\ (∃ (y : Nat), inv70 xs k y /\ (d /\ d /\ b = b /\ f /\ b = b /\ (0 : Int) = (y : Int) /\ d) /\ f /\ d) /\ (∀ (y : Unit), grtK (gB xs) k (6 : Nat) = true -> d /\ d /\ d /\ sumPre (0 : Nat) [b].length (nat_lit 8) /\ d /\ inR .i64 e /\ d /\ ((∃ (y : Nat), ((y <= c /\ trueN (grtB (gB xs)) y = []) /\ c - y < c - k) /\ (d /\ False /\ f /\ e = (y : Int) /\ d) /\ f /\ d) ∨ ∃ (y : Nat), (y <= c /\ c - y < c - k) /\ (d /\ d /\ f /\ e = (y : Int) /\ d) /\ f /\ [b] = trueN (grtB (gB xs)) y /\ d)) /\ (∀ (y : Unit), grtB (gB xs) k = false -> a) /\ d)) /\ (¬b < 64 -> (∃ (y : Unit), trueN (grtB (gB xs)) c = [] /\ (d /\ d) /\ d) ∨ ∃ (y : Unit), d /\ (False /\ d) /\ False)) (inR .i64 e /\ d /\ ((∃ (y : Nat), ((y <= c /\ trueN (grtB (gB xs)) y = []) /\ c - y < c - k) /\ (d /\ d /\ f /\ e = (y : Int) /\ d) /\ f /\ d) ∨ ∃ (y : Nat), (y <= c /\ c - y < c - k) /\ (d /\ False /\ f /\ e = (y : Int) /\ d) /\ f /\ False))) (b + 1)) ((k : Int))) ((64 : Nat))) (True)) (xs = xs)) (by kernel_rfl) ?_
   simp only [zz]
   obtain ⟨k1, k2⟩ := hk
   have hn : k < 64 -> grtB (gB xs) k = false -> inR .i64 ((k : Int) + 1) /\ ∃ y : Nat, ((y <= 64 /\ trueN (grtB (gB xs)) y = []) /\ 64 - y < 64 - k) /\ (k : Int) + 1 = (y : Int) := fun h hb => ⟨by simp only [inR]; omega, k + 1, ⟨⟨by omega, by rw [trueN, hb, k2]; rfl⟩, by omega⟩, by omega⟩
   refine ⟨fun h => ⟨by unfold idxPre; omega, fun h2 => hn (by omega) ?_, fun h2 => ?_⟩, fun h => by rw [show 64 = k by omega, k2]⟩
   · have h3 : gB xs k = false := by simpa [gB] using h2
     unfold grtB; rw [h3]; try rfl
   · have h3 : gB xs k = true := by simpa [gB] using h2
     refine ⟨hL (by omega) h3 _, ⟨0, ⟨by omega, rfl⟩, rfl⟩, fun _ h4 => ⟨by unfold sumPre; simp, by simp only [inR]; omega, k + 1, by omega, by omega, ?_⟩, fun _ h4 => hn (by omega) h4⟩
     rw [trueN, show grtB (gB xs) k = true by unfold grtB; rw [h3]; exact h4, k2]; try rfl
 · have hL := fun h1 h2 => loop70t xs k h1 h2
   refine of_eq (q := (fun (h : Prop) => (fun (f : Nat) => (fun (e : Prop) => (fun (d : Int) => (fun (g : Int) => (fun (c : Prop) => (fun (b : List Int) => (fun (a : Prop) => e /\ (d < 64 -> e /\ idxPre d f /\ e /\ e /\ e /\ e /\ ((!xs.getD k false) = true -> a) /\ ((!xs.getD k false) = false -> e /\ LoopOK (X []) L70_2 (ht70 xs k) (bodyR (X []).m0 (ex70 xs) R) /\ (∃ (y : Nat), inv70 xs k y /\ (e /\ e /\ d = d /\ h /\ d = d /\ (0 : Int) = (y : Int) /\ e) /\ h /\ b = b /\ e) /\ (∀ (y : Unit), grtK (gB xs) k (6 : Nat) = true -> e /\ e /\ e /\ sumPre b.length [d].length (nat_lit 8) /\ e /\ inR .i64 g /\ e /\ (c ∨ ∃ (y : Nat), (y <= f /\ f - y < f - k) /\ (e /\ e /\ h /\ g = (y : Int) /\ e) /\ h /\ b ++ [d] = trueN (grtB (gB xs)) y /\ e)) /\ (∀ (y : Unit), grtB (gB xs) k = false -> a) /\ e)) /\ (¬d < 64 -> (∃ (y : Unit), trueN (grtB (gB xs)) f = [] /\ (False /\ e) /\ e) ∨ ∃ (y : Unit), e /\ (e /\ e) /\ b = trueN (grtB (gB xs)) f /\ e)) (inR .i64 g /\ e /\ (c ∨ ∃ (y : Nat), (y <= f /\ f - y < f - k) /\ (e /\ e /\ h /\ g = (y : Int) /\ e) /\ h /\ b = trueN (grtB (gB xs)) y /\ e))) (trueN (grtB (gB xs)) k)) (∃ (y : Nat), ((y <= f /\ trueN (grtB (gB xs)) y = []) /\ f - y < f - k) /\ (e /\ False /\ h /\ g = (y : Int) /\ e) /\ h /\ e)) (d + 1)) ((k : Int))) (True)) ((64 : Nat))) (xs = xs)) (by kernel_rfl) ?_
   simp only [zz]
   have hk : k <= 64 := hk
   have hf := trueN_len (grtB (gB xs)) k
   have hn : k < 64 -> grtB (gB xs) k = false -> inR .i64 ((k : Int) + 1) /\ ∃ y : Nat, (y <= 64 /\ 64 - y < 64 - k) /\ (k : Int) + 1 = (y : Int) /\ trueN (grtB (gB xs)) k = trueN (grtB (gB xs)) y := fun h hb => ⟨by simp only [inR]; omega, k + 1, by omega, by omega, by rw [trueN, hb]; rfl⟩
   refine ⟨fun h => ⟨by unfold idxPre; omega, fun h2 => hn (by omega) ?_, fun h2 => ?_⟩, fun h => by rw [show 64 = k by omega]⟩
   · have h3 : gB xs k = false := by simpa [gB] using h2
     unfold grtB; rw [h3]; try rfl
   · have h3 : gB xs k = true := by simpa [gB] using h2
     refine ⟨hL (by omega) h3 _, ⟨0, ⟨by omega, rfl⟩, rfl⟩, fun _ h4 => ⟨by unfold sumPre; simp; omega, by simp only [inR]; omega, k + 1, by omega, by omega, ?_⟩, fun _ h4 => hn (by omega) h4⟩
     rw [trueN, show grtB (gB xs) k = true by unfold grtB; rw [h3]; exact h4]; try rfl
theorem call70 (xs : List Bool) (h : xs.length = 64) : GCall Try.prog gl 70 false [.ar .bool 64 xs] [] [.sl I64 (trueN (grtB (gB xs)) 64)] [] := by
 refine gcall_of (X := X []) (X_ok []) (f := 70) (fn := Try.f70) (c := bodyOf Try.f70) (by kernel_rfl) (by kernel_rfl) (view := true) (rvs := [.tmp 2]) (by kernel_rfl) (H := (H70 xs)) 80 (by kernel_rfl) ?_
 have hL := fun R => loop70 xs R
 refine of_eq (q := (fun (b : Prop) => (fun (a : List Int) => b /\ b /\ b /\ b /\ b /\ LoopOK (X []) L70_0 { J := chks (0 : Nat) [(1 : Nat), (3 : Nat), (8 : Nat), (9 : Nat)] (fm70 xs), exits := List.map (fun (x : List Nat × Ex) => x.snd) (ex70 xs) } (RetR (X []) false true [ResultVar.tmp (2 : Tmp)] [AV.sl I64 a] []) /\ ((∃ (y : Nat), (y <= 64 /\ trueN (grtB (gB xs)) y = []) /\ (b /\ b /\ xs = xs /\ (0 : Int) = (y : Int) /\ b) /\ xs = xs /\ b) ∨ ∃ (y : Nat), y <= 64 /\ (b /\ False /\ xs = xs /\ (0 : Int) = (y : Int) /\ b) /\ xs = xs /\ False) /\ (∀ (y : Unit), a = [] -> b /\ b /\ b /\ (([] : List Int) = a /\ b) /\ b) /\ (∀ (y : Unit), b -> b /\ b /\ b /\ (a = a /\ b) /\ b) /\ b) (trueN (grtB (gB xs)) (64 : Nat))) (True)) (by kernel_rfl) ?_
 simp only [zz]
 exact ⟨hL _, ⟨0, ⟨by omega, rfl⟩, rfl⟩, fun _ h => h.symm, fun _ _ => trivial⟩
def e70 : Entry Try.prog gl := entry1 70 ⟨Try.f70, by kernel_rfl, by kernel_rfl, by kernel_rfl⟩ FA (fun xs => (xs : List Bool).length = 64) false (fun xs => [.sl I64 (trueN (grtB (gB xs)) 64)]) (fun _ => []) (call70)
end Go.Am.Sh

/- Shells: a complex is counted. -/
namespace Go.Am.Sh
open Go Go.Am Go.Proofs
structure CxP (n : Int) (p : List Int) : Prop where
 h : cxOk n p
def e53 : Entry Try.prog gl := entry2 53 ⟨Try.f53, by kernel_rfl, by kernel_rfl, by kernel_rfl⟩ I64 SI (fun (n : Int) p => CxP n p) false (fun _ _ => [.ptr 0 0 [], .int .i64 0]) (fun (n : Int) p => [cxO n p]) (fun (n : Int) p h => call53 n p h.h)
def unCx : Ob -> Option (Int × List Int × List Bool)
 | .bx (.agg [n, .sl e xs, .ar e2 _ fs]) => (match toInt .i64 n, castL e I64 xs, castL e2 .bool fs with
   | some n, some p, some f => some (n, p, f)
   | _, _, _ => none)
 | _ => none
abbrev Cx3 := Int × List Int × List Bool
structure okC (x : Cx3) : Prop where
 h : cxOk x.1 x.2.1
 f : x.2.2 = mk (isF x.2.1)
def cxQ (x : Cx3) : Ob := .bx (.agg [.int .i64 x.1, .sl I64 x.2.1, .ar .bool 64 x.2.2])
theorem cxQ_ok {x : Cx3} (h : okC x) : cxQ x = cxO x.1 x.2.1 := by unfold cxQ cxO; rw [h.f]
def mxK (p : List Int) (k : Nat) : Int := (p.take k).foldl (fun m s => maxI m (pc s.toNat)) 0
theorem mxK_step {p : List Int} {k : Nat} (h : k < p.length) : mxK p (k + 1) = maxI (mxK p k) (pc (p.getD k 0).toNat) := by
 unfold mxK; rw [take_getD (d := 0) h, List.foldl_append]; try rfl
theorem mxK_le (p : List Int) : ∀ k, k <= p.length -> 0 <= mxK p k /\ mxK p k <= 6
 | 0, _ => by simp [mxK]
 | k + 1, h => by
   have := mxK_le p k (by omega)
   have := pc_le (p.getD k 0).toNat
   rw [mxK_step (by omega)]
   unfold maxI; split <;> omega
def mxL (p : List Int) : Int := mxK p p.length
noncomputable def L82_0 : Code := lp (bodyOf Try.f82) 0
def st82 (n : Int) (p : List Int) (k : Nat) : St := ⟨dd 3 ++ .int .i64 (mxK p k) :: dd 5 ++ .sl I64 p :: .int .i64 p.length :: .int .i64 k :: dd 9, [cxO n p]⟩
def inv82 (p : List Int) (k : Nat) : Prop := k <= p.length
def ex82 (n : Int) (p : List Int) : List (List Nat × Ex) := [([3], ⟨0, Unit, fun _ => True, fun _ => ⟨dd 3 ++ .int .i64 (mxL p) :: dd 17, [cxO n p]⟩⟩)]
noncomputable def H82 (n : Int) (p : List Int) : Nat -> Option Hint := fun _ => some ⟨chk 1 [3, 9, 10, 11] (inv82 p) (st82 n p), (ex82 n p).map (·.2)⟩
noncomputable def X1 (l : EL) : Cy := mkX Try.prog tt gl l 1 (fun _ => none)
theorem X1_ok (l : EL) : (X1 l).Ok := mkX_ok tt_ok l 1 _
theorem loop82 (n : Int) (p : List Int) (hp : okL p) (hl : p.length <= 10) (R : Exit -> St -> Prop) : LoopOK (X1 [e64]) L82_0 ⟨chk 1 [3, 9, 10, 11] (inv82 p) (st82 n p), (ex82 n p).map (·.2)⟩ R := by
 refine loop_ok (X1_ok _) (H := fun _ _ => none) [3, 9, 10, 11] (inv82 p) (st82 n p) (fun k => p.length - k) (ex82 n p) 100 fun (k : Nat) hk => ?_
 refine of_eq (q := (fun (e : Int) => (fun (d : Prop) => (fun (c : Int) => (fun (b : Int) => (fun (a : Prop) => d /\ (c < b -> idxPre c p.length /\ d /\ d /\ d /\ d /\ (((0 : Int) <= e /\ e < 64) /\ d) /\ d /\ d /\ inR .i64 (c + 1) /\ d /\ ∃ (y : Nat), (inv82 p y /\ p.length - y < p.length - k) /\ (maxI (mxK p k) (↑(pc e.toNat) : Int) = mxK p y /\ p = p /\ b = b /\ c + 1 = (y : Int) /\ d) /\ a) /\ (¬c < b -> ∃ (y : Unit), d /\ (mxK p k = mxL p /\ d) /\ a)) ((n = n /\ p = p /\ mk (isF p) = mk (isF p) /\ d) /\ d)) ((p.length : Int))) ((k : Int))) (True)) (p.getD k (0 : Int))) (by kernel_rfl) ?_
 simp only [zz]
 have hk : k <= p.length := hk
 refine ⟨fun h => ⟨idx_nat (by omega), okL_get hp k, by simp only [inR]; omega, k + 1, ⟨by unfold inv82; omega, by omega⟩, ?_, by omega⟩, fun h => by rw [mxL, show p.length = k by omega]⟩
 rw [mxK_step (by omega)]
theorem call82 (n : Int) (p : List Int) (h : cxOk n p) : GCall Try.prog gl 82 false [.ptr 0 0 []] [cxO n p] [.int .i64 (mxL p)] [cxO n p] := by
 refine gcall_of (X := (X1 [e64])) ((X1_ok _)) (f := 82) (fn := Try.f82) (c := bodyOf Try.f82) (by kernel_rfl) (by kernel_rfl) (view := false) (rvs := [.tmp 2]) (by kernel_rfl) (H := (H82 n p)) 80 (by kernel_rfl) ?_
 have hL := loop82 n p h.ok h.2.1.2
 refine of_eq (q := (fun (b : Prop) => (fun (a : Prop) => b /\ b /\ b /\ b /\ b /\ b /\ b /\ b /\ LoopOK (X1 [e64]) L82_0 { J := chk (1 : Nat) [(3 : Nat), (9 : Nat), (10 : Nat), (11 : Nat)] (inv82 p) (st82 n p), exits := List.map (fun (x : List Nat × Ex) => x.snd) (ex82 n p) } (RetR (X1 [e64]) false false [ResultVar.tmp (2 : Tmp)] [AV.int .i64 (mxL p)] [cxO n p]) /\ (∃ (y : Nat), inv82 p y /\ ((0 : Int) = mxK p y /\ p = p /\ (p.length : Int) = (p.length : Int) /\ (0 : Int) = (y : Int) /\ b) /\ a) /\ (∀ (y : Unit), b -> b /\ b /\ b /\ (mxL p = mxL p /\ b) /\ a) /\ b) ((n = n /\ p = p /\ mk (isF p) = mk (isF p) /\ b) /\ b)) (True)) (by kernel_rfl) ?_
 simp only [zz]
 exact ⟨hL _, ⟨0, Nat.zero_le _, rfl, rfl⟩, fun _ _ => trivial⟩
def getCx (_ : List AV) (obs : List Ob) : Option Cx3 := unCx (obs.getD 0 .gone)
def e82 : Entry Try.prog gl := entryW 82 ⟨Try.f82, by kernel_rfl, by kernel_rfl, by kernel_rfl⟩ true getCx okC false (fun _ => [.ptr 0 0 []]) (fun x => [cxQ x]) (fun x => [.int .i64 (mxL x.2.1)]) (fun x => [cxQ x]) (fun x h => by rw [cxQ_ok h]; exact call82 _ _ h.h)
/-- How many of a list have so many corners. -/
def cntL (l : List Int) (d : Nat) (k : Nat) : List Int := (List.range (d + 1)).map fun i => (((l.take k).filter fun s => pc s.toNat == i).length : Int)
theorem cntL_length (l : List Int) (d k : Nat) : (cntL l d k).length = d + 1 := by simp [cntL]
theorem cntL_getD {l : List Int} {d k i : Nat} (hi : i <= d) : (cntL l d k).getD i 0 = (((l.take k).filter fun s => pc s.toNat == i).length : Int) := by
 unfold cntL
 rw [List.getD_eq_getElem?_getD, List.getElem?_map, List.getElem?_range (by omega)]; try rfl
theorem cntL_step {l : List Int} {d k : Nat} (hk : k < l.length) (hd : pc (l.getD k 0).toNat <= d) : (cntL l d k).set (pc (l.getD k 0).toNat) ((cntL l d k).getD (pc (l.getD k 0).toNat) 0 + 1) = cntL l d (k + 1) := by
 apply ext_getD (d := 0) (by simp [cntL])
 intro i hi
 rw [List.length_set, cntL_length] at hi
 rw [cntL_getD (k := k + 1) (by omega), take_getD (d := 0) hk, List.filter_append, List.length_append]
 by_cases e : pc (l.getD k 0).toNat = i
 · subst e
   rw [List.getD_eq_getElem?_getD, List.getElem?_set_self (by rw [cntL_length]; omega), cntL_getD hd]
   simp
 · rw [List.getD_eq_getElem?_getD, List.getElem?_set_ne e, <- List.getD_eq_getElem?_getD, cntL_getD (by omega)]
   have h0 : ([l.getD k 0].filter fun s => pc s.toNat == i) = [] := by
     simp only [List.filter]
     rw [show (pc (l.getD k 0).toNat == i) = false by simpa using e]
   rw [h0]; simp
theorem cntL_le {l : List Int} {d k i : Nat} : 0 <= (cntL l d k).getD i 0 /\ (cntL l d k).getD i 0 <= k := by
 rcases Nat.lt_or_ge d i with h | h
 · rw [List.getD_eq_getElem?_getD, List.getElem?_eq_none (by rw [cntL_length]; omega)]
   simp
 · rw [cntL_getD h]
   have h1 := List.length_filter_le (fun s : Int => pc s.toNat == i) (l.take k)
   rw [List.length_take] at h1
   omega
def cnts (p : List Int) : List Int := cntL (trueN (isF p) 64) (mxL p).toNat (trueN (isF p) 64).length
def fcs (p : List Int) : List Int := trueN (isF p) 64
theorem fcs_ok (p : List Int) : okL (fcs p) := trueN_ok _
theorem fcs_len (p : List Int) : (fcs p).length <= 64 := trueN_len _ _
theorem cnts_length (p : List Int) : (cnts p).length = (mxL p).toNat + 1 := cntL_length _ _ _
/-- A face has no more corners than the greatest piece. -/
theorem pc_sub : ∀ a b : Fin 64, sub a.val b.val = true -> pc a.val <= pc b.val := by decide +kernel
theorem mxK_ge {p : List Int} : ∀ {k : Nat}, k <= p.length -> ∀ j, j < k -> (pc (p.getD j 0).toNat : Int) <= mxK p k
 | 0, _, j, hj => absurd hj (Nat.not_lt_zero _)
 | k + 1, hk, j, hj => by
   have ih := mxK_ge (p := p) (k := k) (by omega)
   rw [mxK_step (by omega)]
   by_cases e : j = k
   · subst e; unfold maxI; split <;> omega
   · have := ih j (by omega)
     unfold maxI; split <;> omega
theorem fc_le {p : List Int} (hp : okL p) {x : Nat} (hx : x < 64) (h : isF p x = true) : (pc x : Int) <= mxL p := by
 unfold isF at h
 obtain ⟨s, hs, h2⟩ := List.any_eq_true.mp h
 obtain ⟨j, hj, rfl⟩ := List.getElem_of_mem hs
 have h3 := hp _ hs
 have h4 := pc_sub ⟨x, hx⟩ ⟨p[j].toNat, by omega⟩ h2
 have h5 := mxK_ge (p := p) (Nat.le_refl _) j hj
 rw [getD_lt hj] at h5
 unfold mxL
 simp only at h4
 omega
theorem fcs_pc {p : List Int} (hp : okL p) {k : Nat} (hk : k < (fcs p).length) : pc ((fcs p).getD k 0).toNat <= (mxL p).toNat := by
 obtain ⟨n, h1, h2, h3⟩ := trueN_mem (mem_getD (d := 0) hk)
 show pc ((trueN (isF p) 64).getD k 0).toNat <= _
 rw [h1, Int.toNat_natCast]
 have := fc_le hp h2 h3
 have := (mxK_le p p.length (Nat.le_refl _)).1
 unfold mxL at *
 omega
noncomputable def L65_0 : Code := lp (bodyOf Try.f65) 0
def st65 (n : Int) (p : List Int) (k : Nat) : St := ⟨dd 3 ++ .own 1 0 :: dd 10 ++ .sl I64 (fcs p) :: .int .i64 (fcs p).length :: .int .i64 k :: dd 12, [cxO n p, .sc 0 3 I64 (cntL (fcs p) (mxL p).toNat k)]⟩
def inv65 (p : List Int) (k : Nat) : Prop := k <= (fcs p).length
def ex65 (n : Int) (p : List Int) : List (List Nat × Ex) := [([3], ⟨0, Unit, fun _ => True, fun _ => ⟨dd 3 ++ .own 1 0 :: dd 25, [cxO n p, .sc 0 3 I64 (cnts p)]⟩⟩)]
noncomputable def H65 (n : Int) (p : List Int) : Nat -> Option Hint := fun _ => some ⟨chk 1 [3, 14, 15, 16] (inv65 p) (st65 n p), (ex65 n p).map (·.2)⟩
theorem loop65 (n : Int) (p : List Int) (hp : okL p) (hl : p.length <= 10) (R : Exit -> St -> Prop) : LoopOK (X1 [e64, e66, e82]) L65_0 ⟨chk 1 [3, 14, 15, 16] (inv65 p) (st65 n p), (ex65 n p).map (·.2)⟩ R := by
 refine loop_ok (X1_ok _) (H := fun _ _ => none) [3, 14, 15, 16] (inv65 p) (st65 n p) (fun k => (fcs p).length - k) (ex65 n p) 100 fun (k : Nat) hk => ?_
 refine of_eq (q := (fun (h : Int) => (fun (g : Prop) => (fun (f : Int) => (fun (d : Prop) => (fun (a : List Int) => (fun (e : Int) => (fun (c : Nat) => (fun (b : List Int) => g /\ (f < e -> idxPre f a.length /\ g /\ g /\ g /\ g /\ ((h <= a.getD k h /\ a.getD k h < 64) /\ g) /\ idxPre (c : Int) b.length /\ g /\ inR .i64 (b.getD c h + 1) /\ idxPre (c : Int) b.length /\ g /\ inR .i64 (f + 1) /\ g /\ ∃ (y : Nat), (inv65 p y /\ a.length - y < a.length - k) /\ (g /\ a = a /\ e = e /\ f + 1 = (y : Int) /\ g) /\ d /\ b.set c (b.getD c h + 1) = cntL a (mxL p).toNat y /\ g) /\ (¬f < e -> ∃ (y : Unit), g /\ (g /\ g) /\ d /\ b = cnts p /\ g)) (cntL a (mxL p).toNat k)) (pc (Int.toNat (a.getD k h)))) ((a.length : Int))) (fcs p)) (n = n /\ p = p /\ mk (isF p) = mk (isF p) /\ g)) ((k : Int))) (True)) ((0 : Int))) (by kernel_rfl) ?_
 simp only [zz]
 have hk : k <= (fcs p).length := hk
 have hf := fcs_len p
 refine ⟨fun h => ?_, fun h => by rw [show k = (fcs p).length by omega]; rfl⟩
 have hd := fcs_pc hp (k := k) (by omega)
 have hle := cntL_le (l := fcs p) (d := (mxL p).toNat) (k := k) (i := pc ((fcs p).getD k 0).toNat)
 have hi : idxPre ((pc ((fcs p).getD k 0).toNat : Nat) : Int) (cntL (fcs p) (mxL p).toNat k).length := idx_nat (by rw [cntL_length]; omega)
 exact ⟨idx_nat (by omega), okL_get (fcs_ok p) k, hi, by simp only [inR]; omega, hi, by simp only [inR]; omega, k + 1, ⟨by unfold inv65; omega, by omega⟩, by omega, cntL_step (by omega) hd⟩
theorem call65 (n : Int) (p : List Int) (h : cxOk n p) : GCall Try.prog gl 65 false [.ptr 0 0 []] [cxO n p] [.sl I64 (cnts p)] [cxO n p] := by
 refine gcall_of (X := (X1 [e64, e66, e82])) ((X1_ok _)) (f := 65) (fn := Try.f65) (c := bodyOf Try.f65) (by kernel_rfl) (by kernel_rfl) (view := true) (rvs := [.tmp 2]) (by kernel_rfl) (H := (H65 n p)) 80 (by kernel_rfl) ?_
 have hL := loop65 n p h.ok h.2.1.2
 refine of_eq (q := (fun (e : Cy) => (fun (c : Prop) => (fun (b : Int) => (fun (a : List Bool) => (fun (d : Prop) => c /\ c /\ ((okC (n, p, a) /\ (c /\ c) /\ d /\ c) /\ c /\ c) /\ inR .i64 b /\ ((0 : Int) <= b /\ b <= b /\ b * (↑(nat_lit 8) : Int) <= 140737488355328 /\ b <= 140737488355328) /\ c /\ c /\ c /\ c /\ c /\ (a.length = 64 /\ c) /\ c /\ c /\ LoopOK e L65_0 { J := chk (1 : Nat) [(3 : Nat), (14 : Nat), (15 : Nat), (16 : Nat)] (inv65 p) (st65 n p), exits := List.map (fun (x : List Nat × Ex) => x.snd) (ex65 n p) } (RetR e false true [ResultVar.tmp (2 : Tmp)] [AV.sl I64 (cnts p)] [cxO n p]) /\ (∃ (y : Nat), inv65 p y /\ (c /\ trueN (gB a) (64 : Nat) = fcs p /\ (↑(trueN (gB a) (64 : Nat)).length : Int) = (↑(fcs p).length : Int) /\ (0 : Int) = (y : Int) /\ c) /\ d /\ List.replicate b.toNat (Ty.int .i64).dflt = cntL (fcs p) (mxL p).toNat y /\ c) /\ (∀ (y : Unit), c -> c /\ c /\ c /\ (cnts p = cnts p /\ c) /\ d /\ c) /\ c) (n = n /\ p = p /\ a = a /\ c)) (mk (isF p))) (mxL p + 1)) (True)) (X1 [e64, e66, e82])) (by kernel_rfl) ?_
 simp only [zz]
 obtain ⟨m1, m2⟩ := mxK_le p p.length (Nat.le_refl _)
 have m1 : 0 <= mxL p := m1
 have m2 : mxL p <= 6 := m2
 refine ⟨⟨h, rfl⟩, by simp only [inR]; omega, by omega, mk_length _, hL _, ⟨0, Nat.zero_le _, ⟨trueN_mk _, by rw [trueN_mk]; rfl, rfl⟩, ?_⟩, fun _ _ => trivial⟩
 apply ext_getD (d := 0) (by rw [cntL_length]; simp; omega)
 intro i hi
 rw [List.length_replicate] at hi
 rw [cntL_getD (by omega), List.getD_eq_getElem?_getD, List.getElem?_replicate, if_pos hi]
 rfl
def e65 : Entry Try.prog gl := entryW 65 ⟨Try.f65, by kernel_rfl, by kernel_rfl, by kernel_rfl⟩ true getCx okC false (fun _ => [.ptr 0 0 []]) (fun x => [cxQ x]) (fun x => [.sl I64 (cnts x.2.1)]) (fun x => [cxQ x]) (fun x h => by rw [cxQ_ok h]; exact call65 _ _ h.h)
theorem eulN_ext {f g : Nat -> Bool} : ∀ {k : Nat}, (∀ x, x < k -> f x = g x) -> eulN f k = eulN g k
 | 0, _ => rfl
 | k + 1, h => by
   rw [eulN, eulN, h k (by omega), eulN_ext fun x hx => h x (by omega)]
theorem eulN_mk (g : Nat -> Bool) : eulN (gB (mk g)) 64 = eulN g 64 := eulN_ext fun x hx => mk_getD hx
theorem call38 (n : Int) (p : List Int) (h : cxOk n p) : GCall Try.prog gl 38 false [.int .i64 n, .sl I64 p] [] [.sl I64 (cnts p), .int .i64 0] [] := by
 refine gcall_of (X := X [e53, e65]) (X_ok [e53, e65]) (f := 38) (fn := Try.f38) (c := bodyOf Try.f38) (by kernel_rfl) (by kernel_rfl) (view := false) (rvs := [.tmp 4, .tmp 5]) (by kernel_rfl) (H := fun _ => none) 80 (by kernel_rfl) ?_
 refine of_eq (q := (fun (b : Prop) => (fun (a : Prop) => a /\ a /\ a /\ a /\ (CxP n p /\ a) /\ a /\ a /\ a /\ a /\ a /\ a /\ a /\ (¬b -> a /\ a /\ a /\ a /\ (([] : List Int) = cnts p /\ b /\ a) /\ a) /\ (¬¬b -> a /\ ((okC (n, p, mk (isF p)) /\ (a /\ a) /\ (n = n /\ p = p /\ mk (isF p) = mk (isF p) /\ a) /\ a) /\ a /\ a) /\ a /\ a /\ a /\ (cnts p = cnts p /\ b /\ a) /\ a)) (True)) ((0 : Int) = 0)) (by kernel_rfl) ?_
 simp only [zz]
 exact ⟨⟨h⟩, fun h => absurd trivial h, fun _ => ⟨h, rfl⟩⟩
theorem call39 (n : Int) (p : List Int) (h : cxOk n p) : GCall Try.prog gl 39 true [.int .i64 n, .sl I64 p] [] [.int .i64 (eulN (isF p) 64), .int .i64 0] [] := by
 refine gcall_of (X := X [e53, e71]) (X_ok [e53, e71]) (f := 39) (fn := Try.f39) (c := bodyOf Try.f39) (by kernel_rfl) (by kernel_rfl) (view := false) (rvs := [.tmp 4, .tmp 5]) (by kernel_rfl) (H := fun _ => none) 80 (by kernel_rfl) ?_
 refine of_eq (q := (fun (b : Int) => (fun (a : Prop) => a /\ a /\ a /\ a /\ (CxP n p /\ a) /\ a /\ a /\ a /\ a /\ a /\ a /\ a /\ (¬b = b -> a /\ a /\ a /\ a /\ (b = eulN (isF p) (64 : Nat) /\ b = b /\ a) /\ a) /\ (¬¬b = b -> a /\ a /\ a /\ a /\ ((mk (isF p)).length = 64 /\ a) /\ a /\ a /\ a /\ (eulN (gB (mk (isF p))) (64 : Nat) = eulN (isF p) (64 : Nat) /\ b = b /\ a) /\ a)) (True)) ((0 : Int))) (by kernel_rfl) ?_
 simp only [zz]
 exact ⟨⟨h⟩, fun h => absurd trivial h, fun _ => ⟨mk_length _, eulN_mk _⟩⟩
end Go.Am.Sh

/- Shells: the h-list. -/
namespace Go.Am.Sh
open Go Go.Am Go.Proofs
/-- The triangle, as far as it is done from the end on. -/
def triJ (l : List Int) (j : Nat) : List Int := (List.range (l.length + 1)).map fun i => if j < i then (l ++ [0]).getD i 0 - (l ++ [0]).getD (i - 1) 0 else (l ++ [0]).getD i 0
theorem triJ_length (l : List Int) (j : Nat) : (triJ l j).length = l.length + 1 := by simp [triJ]
theorem triJ_getD {l : List Int} {j i : Nat} (h : i <= l.length) : (triJ l j).getD i 0 = if j < i then (l ++ [0]).getD i 0 - (l ++ [0]).getD (i - 1) 0 else (l ++ [0]).getD i 0 := by
 unfold triJ
 rw [List.getD_eq_getElem?_getD, List.getElem?_map, List.getElem?_range (by omega)]; try rfl
theorem triJ_first (l : List Int) : triJ l l.length = l ++ [0] := by
 apply ext_getD (d := 0) (by simp [triJ])
 intro i hi
 rw [triJ_length] at hi
 rw [triJ_getD (by omega), if_neg (by omega)]
theorem triJ_step {l : List Int} {j : Nat} (h0 : 0 < j) (h : j <= l.length) : (triJ l j).set j ((triJ l j).getD j 0 - (triJ l j).getD (j - 1) 0) = triJ l (j - 1) := by
 apply ext_getD (d := 0) (by simp [triJ])
 intro i hi
 rw [List.length_set, triJ_length] at hi
 rw [triJ_getD (j := j - 1) (by omega)]
 by_cases e : j = i
 · subst e
   rw [List.getD_eq_getElem?_getD, List.getElem?_set_self (by rw [triJ_length]; omega), Option.getD_some, triJ_getD (by omega), triJ_getD (by omega), if_neg (by omega), if_neg (by omega), if_pos (by omega)]
 · rw [List.getD_eq_getElem?_getD, List.getElem?_set_ne e, <- List.getD_eq_getElem?_getD, triJ_getD (by omega)]
   by_cases h1 : j < i
   · rw [if_pos h1, if_pos (by omega)]
   · rw [if_neg h1, if_neg (by omega)]
def hsK (f : List Int) : Nat -> List Int
 | 0 => [0]
 | 1 => [0 + f.getD 0 0]
 | k + 2 => (triJ (hsK f (k + 1)) 0).set (k + 1) ((triJ (hsK f (k + 1)) 0).getD (k + 1) 0 + f.getD (k + 1) 0)
theorem hsK_length (f : List Int) : ∀ k, (hsK f (k + 1)).length = k + 1
 | 0 => rfl
 | k + 1 => by rw [hsK, List.length_set, triJ_length, hsK_length f k]
def bdd (B : Int) (l : List Int) : Prop := ∀ i, -B <= l.getD i 0 /\ l.getD i 0 <= B
theorem bdd_app {B : Int} {l : List Int} (h : bdd B l) (h0 : 0 <= B) : bdd B (l ++ [0]) := fun i => by
 rcases Nat.lt_or_ge i l.length with hi | hi
 · rw [getD_append_left hi]; exact h i
 · rw [List.getD_eq_getElem?_getD, List.getElem?_append_right hi]
   cases i - l.length <;> simp <;> omega
theorem bdd_tri {B : Int} {l : List Int} (h : bdd B l) (h0 : 0 <= B) (j : Nat) : bdd (2 * B) (triJ l j) := fun i => by
 rcases Nat.lt_or_ge l.length i with hi | hi
 · rw [List.getD_eq_getElem?_getD, List.getElem?_eq_none (by rw [triJ_length]; omega)]
   simp; omega
 · rw [triJ_getD hi]
   have h1 := bdd_app h h0 i
   have h2 := bdd_app h h0 (i - 1)
   split <;> omega
theorem bdd_set {B C : Int} {l : List Int} (h : bdd B l) {i : Nat} {x : Int} (hx : -C <= x /\ x <= C) (hBC : B <= C) : bdd C (l.set i x) := fun j => by
 by_cases e : i = j
 · subst e
   rcases Nat.lt_or_ge i l.length with hi | hi
   · rw [List.getD_eq_getElem?_getD, List.getElem?_set_self hi]; exact hx
   · rw [List.getD_eq_getElem?_getD, List.getElem?_eq_none (by simpa using hi)]
     simp; omega
 · rw [List.getD_eq_getElem?_getD, List.getElem?_set_ne e, <- List.getD_eq_getElem?_getD]
   have := h j; omega
theorem hsK_bdd {f : List Int} (hf : bdd 64 f) : ∀ k : Nat, bdd (64 * 3 ^ k) (hsK f (k + 1))
 | 0 => fun i => by
   have := hf 0
   have e : (64 * 3 ^ 0 : Int) = 64 := rfl
   rw [hsK, e]
   rcases i with _ | i
   · show -64 <= 0 + f.getD 0 0 /\ 0 + f.getD 0 0 <= 64
     omega
   · show (-64 : Int) <= 0 /\ (0 : Int) <= 64
     omega
 | k + 1 => by
   have hp : (0 : Int) < 3 ^ k := Int.pow_pos (by decide)
   have ih := bdd_tri (hsK_bdd hf k) (by omega) 0
   have h1 := ih (k + 1)
   have h2 := hf (k + 1)
   rw [hsK]
   refine bdd_set ih ⟨?_, ?_⟩ ?_ <;> rw [Int.pow_succ] <;> omega
theorem cnts_bdd (p : List Int) : bdd 64 (cnts p) := fun i => by
 have := cntL_le (l := fcs p) (d := (mxL p).toNat) (k := (fcs p).length) (i := i)
 have := fcs_len p
 have e : (cnts p).getD i 0 = (cntL (fcs p) (mxL p).toNat (fcs p).length).getD i 0 := rfl
 omega
theorem hsK_small {f : List Int} (hf : bdd 64 f) {k : Nat} (h : 1 <= k /\ k <= 7) : bdd 50000 (hsK f k) := fun i => by
 obtain ⟨n, rfl⟩ : ∃ n, k = n + 1 := ⟨k - 1, by omega⟩
 have h1 := hsK_bdd hf n i
 have h2 : (3 : Int) ^ n <= 729 := by
   have : 3 ^ n <= 3 ^ 6 := Nat.pow_le_pow_right (by decide) (show n <= 6 by omega)
   have e : ((3 ^ n : Nat) : Int) = 3 ^ n := by rw [Int.natCast_pow]; try rfl
   omega
 omega
def hsL (p : List Int) : List Int := hsK (cnts p) (cnts p).length
noncomputable def L27_0 : Code := lp (bodyOf Try.f27) 0
noncomputable def L27_2 : Code := lp (bodyOf Try.f27) 2
def st27 (f : List Int) (k : Nat) : St := ⟨dd 10 ++ .own 0 0 :: dd 20 ++ .sl I64 f :: .int .i64 f.length :: .int .i64 k :: dd 36, [.sc 0 3 I64 (hsK f k)]⟩
def inv27 (f : List Int) (k : Nat) : Prop := k <= f.length
def ex27 (f : List Int) : List (List Nat × Ex) := [([10], ⟨0, Unit, fun _ => True, fun _ => ⟨dd 10 ++ .own 0 0 :: dd 59, [.sc 0 3 I64 (hsK f f.length)]⟩⟩)]
def h27 (f : List Int) : Hint := ⟨chk 0 [10, 31, 32, 33] (inv27 f) (st27 f), (ex27 f).map (·.2)⟩
def sj27 (f : List Int) (k j : Nat) : St := ⟨dd 10 ++ .own 0 0 :: .int .i64 k :: .int .i64 (f.getD k 0) :: .int .i64 j :: dd 17 ++ .sl I64 f :: .int .i64 f.length :: .int .i64 k :: dd 36, [.sc 0 3 I64 (triJ (hsK f k) j)]⟩
def ej27 (f : List Int) (k : Nat) : List (List Nat × Ex) := [([10, 11, 12, 31, 32, 33], ⟨2, Unit, fun _ => True, fun _ => ⟨dd 10 ++ .own 0 0 :: .int .i64 k :: .int .i64 (f.getD k 0) :: dd 18 ++ .sl I64 f :: .int .i64 f.length :: .int .i64 k :: dd 36, [.sc 0 3 I64 (triJ (hsK f k) 0)]⟩⟩)]
def hj27 (f : List Int) (k : Nat) : Hint := ⟨chk 0 [10, 11, 12, 13, 31, 32, 33] (fun j => j <= k) (sj27 f k), (ej27 f k).map (·.2)⟩
noncomputable abbrev E27 : EL := [e53, e65]
theorem loop27b (f : List Int) (k : Nat) (hk : 1 <= k /\ k < 7) (hf : bdd 64 f) (R : Exit -> St -> Prop) : LoopOK (X E27) L27_2 (hj27 f k) R := by
 refine loop_ok (X_ok _) (H := fun _ _ => none) [10, 11, 12, 13, 31, 32, 33] (fun j => j <= k) (sj27 f k) (fun j => j) (ej27 f k) 100 fun (j : Nat) hj => ?_
 refine of_eq (q := (fun (h : Prop) => (fun (g : Int) => (fun (e : Int) => (fun (d : Int) => (fun (i : Int) => (fun (c : Prop) => (fun (b : Int) => (fun (a : List Int) => (fun (l : Int) => h /\ h /\ (d < g -> h /\ h /\ idxPre g a.length /\ h /\ h /\ h /\ inR .i64 b /\ idxPre b a.length /\ h /\ inR .i64 l /\ idxPre g a.length /\ h /\ h /\ inR .i64 b /\ h /\ ∃ (y : Nat), (y <= k /\ y < j) /\ (h /\ e = e /\ i = i /\ b = (y : Int) /\ c) /\ a.set j l = triJ (hsK f k) y /\ h) /\ (¬d < g -> ∃ (y : Unit), h /\ (h /\ e = e /\ i = i /\ c) /\ a = triJ (hsK f k) (0 : Nat) /\ h)) (a.getD j d - a.getD b.toNat d)) (triJ (hsK f k) j)) (g - 1)) (f = f /\ (f.length : Int) = (f.length : Int) /\ e = e /\ h)) (f.getD k d)) ((0 : Int))) ((k : Int))) ((j : Int))) (True)) (by kernel_rfl) ?_
 simp only [zz]
 have hj : j <= k := hj
 obtain ⟨n, hn⟩ : ∃ n, k = n + 1 := ⟨k - 1, by omega⟩
 have hlen : (hsK f k).length = k := by rw [hn]; exact hsK_length f n
 have hb := bdd_tri (hsK_small hf (k := k) (by omega)) (by decide) j
 have h1 := hb j
 have h2 := hb (j - 1)
 refine ⟨fun h => ?_, fun h => by rw [show j = 0 by omega]⟩
 rw [show ((j : Int) - 1).toNat = j - 1 by omega, triJ_length, hlen]
 exact ⟨idx_nat (by omega), by simp only [inR]; omega, by unfold idxPre; omega, by simp only [inR]; omega, idx_nat (by omega), by simp only [inR]; omega, j - 1, by omega, by omega, triJ_step (by omega) (by omega)⟩
theorem loop27 (f : List Int) (hl : f.length <= 7) (hf : bdd 64 f) (R : Exit -> St -> Prop) : LoopOK (X E27) L27_0 (h27 f) R := by
 refine loop_ok (X_ok _) (H := fun k _ => some (hj27 f k)) [10, 31, 32, 33] (inv27 f) (st27 f) (fun k => f.length - k) (ex27 f) 150 fun (k : Nat) hk => ?_
 have hL := fun h => loop27b f k h hf (bodyR (X E27).m0 (ex27 f) R)
 refine of_eq (q := (fun (i : Nat) => (fun (e : Prop) => (fun (d : Int) => (fun (c : Int) => (fun (b : Int) => (fun (j : Int) => (fun (a : List Int) => (fun (h : Int) => (fun (g : List Int) => e /\ (b < c -> e /\ idxPre b f.length /\ e /\ e /\ e /\ e /\ e /\ (d < b -> e /\ e /\ sumPre a.length [d].length (nat_lit 8) /\ e /\ e /\ e /\ inR .i64 h /\ e /\ LoopOK (X E27) L27_2 (hj27 f k) (bodyR (X E27).m0 (ex27 f) R) /\ (∃ (y : Nat), y <= k /\ (e /\ b = b /\ f.getD k d = f.getD k d /\ h = (y : Int) /\ f = f /\ c = c /\ b = b /\ e) /\ a ++ [d] = triJ a y /\ e) /\ (∀ (y : Unit), e -> e /\ e /\ idxPre b g.length /\ e /\ e /\ inR .i64 (g.getD k d + f.getD k d) /\ idxPre b g.length /\ e /\ inR .i64 j /\ e /\ ∃ (y : Nat), (inv27 f y /\ i - y < i - k) /\ (e /\ f = f /\ c = c /\ j = (y : Int) /\ e) /\ g.set k (g.getD k d + f.getD k d) = hsK f y /\ e) /\ e) /\ (¬d < b -> e /\ e /\ idxPre b a.length /\ e /\ e /\ inR .i64 (a.getD k d + f.getD k d) /\ idxPre b a.length /\ e /\ inR .i64 j /\ e /\ ∃ (y : Nat), (inv27 f y /\ i - y < i - k) /\ (e /\ f = f /\ c = c /\ j = (y : Int) /\ e) /\ a.set k (a.getD k d + f.getD k d) = hsK f y /\ e)) /\ (¬b < c -> ∃ (y : Unit), e /\ (e /\ e) /\ a = hsK f i /\ e)) (triJ a (0 : Nat))) ((↑(a ++ [d]).length : Int) - 1)) (hsK f k)) (b + 1)) ((k : Int))) ((i : Int))) ((0 : Int))) (True)) (f.length)) (by kernel_rfl) ?_
 simp only [zz]
 have hk : k <= f.length := hk
 refine ⟨fun h => ⟨idx_nat (by omega), fun h0 => ?_, fun h0 => ?_⟩, fun h => by rw [show k = f.length by omega]⟩
 · obtain ⟨n, hn⟩ : ∃ n, k = n + 1 := ⟨k - 1, by omega⟩
   have hlen : (hsK f k).length = k := by rw [hn]; exact hsK_length f n
   have hb := bdd_tri (hsK_small hf (k := k) (by omega)) (by decide) 0
   have h1 := hb k
   have h2 := hf k
   have hal : (hsK f k ++ [(0 : Int)]).length = k + 1 := by rw [List.length_append, hlen]; try rfl
   rw [triJ_length, hlen]
   refine ⟨by unfold sumPre; simp; omega, by show inR .i64 (((hsK f k ++ [(0 : Int)]).length : Int) - 1); rw [hal]; simp only [inR]; omega, hL (by omega), ⟨k, Nat.le_refl _, by show (((hsK f k ++ [(0 : Int)]).length : Int) - 1) = k; rw [hal]; omega, ?_⟩, fun _ _ => ⟨idx_nat (by omega), by simp only [inR]; omega, idx_nat (by omega), by simp only [inR]; omega, k + 1, ⟨by unfold inv27; omega, by omega⟩, by omega, by rw [hn]; rfl⟩⟩
   have := triJ_first (hsK f k)
   rw [hlen] at this
   exact this.symm
 · have : k = 0 := by omega
   subst this
   have h2 := hf 0
   have e : (hsK f 0).getD 0 0 = 0 := rfl
   rw [e]
   exact ⟨by show idxPre 0 1; unfold idxPre; omega, by simp only [inR]; omega, by show idxPre 0 1; unfold idxPre; omega, by simp only [inR]; omega, 1, ⟨by unfold inv27; omega, by omega⟩, by omega, rfl⟩
theorem call27 (n : Int) (p : List Int) (h : cxOk n p) : GCall Try.prog gl 27 false [.int .i64 n, .sl I64 p] [] [.sl I64 (hsL p), .int .i64 0] [] := by
 refine gcall_of (X := (X E27)) ((X_ok _)) (f := 27) (fn := Try.f27) (c := bodyOf Try.f27) (by kernel_rfl) (by kernel_rfl) (view := true) (rvs := [.tmp 4, .tmp 5]) (by kernel_rfl) (H := (fun _ => some (h27 (cnts p)))) 150 (by kernel_rfl) ?_
 have hL := fun h => loop27 (cnts p) h (cnts_bdd p)
 refine of_eq (q := (fun (f : Int) => (fun (d : Int) => (fun (b : Prop) => (fun (a : List Int) => (fun (e : Int) => (fun (c : Int) => b /\ b /\ b /\ b /\ (CxP n p /\ b) /\ b /\ b /\ b /\ b /\ b /\ b /\ b /\ (¬d = d -> b /\ b /\ b /\ b /\ (([] : List Int) = hsL p /\ d = d /\ b) /\ b) /\ (¬¬d = d -> b /\ ((okC (n, p, mk (isF p)) /\ (b /\ b) /\ (n = n /\ p = p /\ mk (isF p) = mk (isF p) /\ b) /\ b) /\ b /\ b) /\ b /\ b /\ b /\ inR .i64 (e - f) /\ b /\ b /\ inR .i64 c /\ (d <= f /\ f <= c /\ c * (↑(nat_lit 8) : Int) <= 140737488355328 /\ c <= 140737488355328) /\ b /\ b /\ b /\ b /\ LoopOK (X E27) L27_0 (h27 a) (RetR (X E27) false true [ResultVar.tmp (4 : Tmp), ResultVar.tmp (5 : Tmp)] [AV.sl I64 (hsL p), AV.int .i64 d] []) /\ (∃ (y : Nat), inv27 a y /\ (b /\ a = a /\ e = (a.length : Int) /\ d = (y : Int) /\ b) /\ [(Ty.int .i64).dflt] = hsK a y /\ b) /\ (∀ (y : Unit), b -> b /\ b /\ b /\ b /\ (hsK a a.length = hsL p /\ d = d /\ b) /\ b) /\ b)) (e - f + f)) ((a.length : Int))) (cnts p)) (True)) ((0 : Int))) ((1 : Int))) (by kernel_rfl) ?_
 simp only [zz]
 obtain ⟨m1, m2⟩ := mxK_le p p.length (Nat.le_refl _)
 have m1 : 0 <= mxL p := m1
 have m2 : mxL p <= 6 := m2
 have hc := cnts_length p
 exact ⟨⟨h⟩, fun h => absurd trivial h, fun _ => ⟨⟨h, rfl⟩, by simp only [inR]; omega, by simp only [inR]; omega, by omega, hL (by omega) _, ⟨0, Nat.zero_le _, rfl, rfl⟩, fun _ _ => rfl⟩⟩
end Go.Am.Sh

/- Shells: the rank of rows of bits. -/
namespace Go.Am.Sh
open Go Go.Am Go.Proofs
theorem bAnd_u64 {a b : Nat} (ha : a < 18446744073709551616) (hb : b < 18446744073709551616) : bAnd .u64 a b = ((a &&& b : Nat) : Int) := by
 unfold bAnd
 show IntKind.wrap .u64 (((BitVec.ofInt 64 (a : Int)) &&& (BitVec.ofInt 64 (b : Int))).toNat : Int) = _
 rw [ofInt_nat, ofInt_nat, BitVec.toNat_and, BitVec.toNat_ofNat, BitVec.toNat_ofNat, Nat.mod_eq_of_lt (by omega), Nat.mod_eq_of_lt (by omega), wrap_u64]
 exact Nat.lt_of_le_of_lt Nat.and_le_left ha
theorem bXor_u64 {a b : Nat} (ha : a < 18446744073709551616) (hb : b < 18446744073709551616) : bXor .u64 a b = ((a ^^^ b : Nat) : Int) := by
 unfold bXor
 show IntKind.wrap .u64 (((BitVec.ofInt 64 (a : Int)) ^^^ (BitVec.ofInt 64 (b : Int))).toNat : Int) = _
 rw [ofInt_nat, ofInt_nat, BitVec.toNat_xor, BitVec.toNat_ofNat, BitVec.toNat_ofNat, Nat.mod_eq_of_lt (by omega), Nat.mod_eq_of_lt (by omega), wrap_u64]
 exact Nat.xor_lt_two_pow (n := 64) ha hb
theorem bOr_u64 {a b : Nat} (ha : a < 18446744073709551616) (hb : b < 18446744073709551616) : bOr .u64 a b = ((a ||| b : Nat) : Int) := by
 unfold bOr
 show IntKind.wrap .u64 (((BitVec.ofInt 64 (a : Int)) ||| (BitVec.ofInt 64 (b : Int))).toNat : Int) = _
 rw [ofInt_nat, ofInt_nat, BitVec.toNat_or, BitVec.toNat_ofNat, BitVec.toNat_ofNat, Nat.mod_eq_of_lt (by omega), Nat.mod_eq_of_lt (by omega), wrap_u64]
 exact Nat.or_lt_two_pow (n := 64) ha hb
/-- The lowest bit. -/
def lo (a : Nat) : Nat := a &&& ((18446744073709551616 - a) % 18446744073709551616)
theorem lo_le (a : Nat) : lo a <= a := Nat.and_le_left
theorem lo_u64 {a : Nat} (h : a < 9223372036854775808) : bAnd .u64 (a : Int) (modU .u64 (0 - (a : Int))) = (lo a : Int) := by
 have e : modU .u64 (0 - (a : Int)) = (((18446744073709551616 - a) % 18446744073709551616 : Nat) : Int) := by
   show (0 - (a : Int)) % 18446744073709551616 = _
   omega
 rw [e, bAnd_u64 (by omega) (by omega)]; try rfl
def okR (l : List Int) : Prop := ∀ i, 0 <= l.getD i 0 /\ l.getD i 0 < 9223372036854775808
def hitR (l : List Int) (i k : Nat) : Bool := !Nat.beq ((l.getD k 0).toNat &&& lo (l.getD i 0).toNat) 0
/-- Row i has cleared those from i + 1 to j. -/
def clr (l : List Int) (i j : Nat) : List Int := (List.range l.length).map fun k => if i < k /\ k < j /\ hitR l i k = true then (((l.getD k 0).toNat ^^^ (l.getD i 0).toNat : Nat) : Int) else l.getD k 0
theorem clr_length (l : List Int) (i j : Nat) : (clr l i j).length = l.length := by simp [clr]
theorem clr_getD {l : List Int} {i j k : Nat} (h : k < l.length) : (clr l i j).getD k 0 = if i < k /\ k < j /\ hitR l i k = true then (((l.getD k 0).toNat ^^^ (l.getD i 0).toNat : Nat) : Int) else l.getD k 0 := by
 unfold clr
 rw [List.getD_eq_getElem?_getD, List.getElem?_map, List.getElem?_range h]; try rfl
theorem clr_first {l : List Int} {i : Nat} : clr l i (i + 1) = l := by
 apply ext_getD (d := 0) (clr_length _ _ _)
 intro k hk
 rw [clr_length] at hk
 rw [clr_getD hk, if_neg (by omega)]
theorem clr_self {l : List Int} {i j k : Nat} (hk : k < l.length) (h : k <= i ∨ j <= k) : (clr l i j).getD k 0 = l.getD k 0 := by
 rw [clr_getD hk, if_neg (by omega)]
theorem clr_hit {l : List Int} {i j : Nat} (hij : i < j) (hj : j < l.length) (h : hitR l i j = true) : (clr l i j).set j (((l.getD j 0).toNat ^^^ (l.getD i 0).toNat : Nat) : Int) = clr l i (j + 1) := by
 apply ext_getD (d := 0) (by simp [clr])
 intro k hk
 rw [List.length_set, clr_length] at hk
 rw [clr_getD (j := j + 1) hk]
 by_cases e : j = k
 · subst e
   rw [List.getD_eq_getElem?_getD, List.getElem?_set_self (by rw [clr_length]; omega), Option.getD_some, if_pos ⟨hij, by omega, h⟩]
 · rw [List.getD_eq_getElem?_getD, List.getElem?_set_ne e, <- List.getD_eq_getElem?_getD, clr_getD hk]
   by_cases h2 : i < k /\ k < j /\ hitR l i k = true
   · rw [if_pos h2, if_pos ⟨h2.1, by omega, h2.2.2⟩]
   · rw [if_neg h2, if_neg fun h3 => h2 ⟨h3.1, by omega, h3.2.2⟩]
theorem clr_miss {l : List Int} {i j : Nat} (h : hitR l i j = false) : clr l i (j + 1) = clr l i j := by
 apply ext_getD (d := 0) (by simp [clr])
 intro k hk
 rw [clr_length] at hk
 rw [clr_getD hk, clr_getD hk]
 by_cases e : k = j
 · subst e
   rw [if_neg (fun h3 => by rw [h] at h3; cases h3.2.2), if_neg (by omega)]
 · by_cases h2 : i < k /\ k < j /\ hitR l i k = true
   · rw [if_pos h2, if_pos ⟨h2.1, by omega, h2.2.2⟩]
   · rw [if_neg h2, if_neg fun h3 => h2 ⟨h3.1, by omega, h3.2.2⟩]
theorem clr_ok {l : List Int} (h : okR l) (i j : Nat) : okR (clr l i j) := fun k => by
 rcases Nat.lt_or_ge k l.length with hk | hk
 · rw [clr_getD hk]
   have h1 := h k
   have h2 := h i
   split
   · have := Nat.xor_lt_two_pow (n := 63) (x := (l.getD k 0).toNat) (y := (l.getD i 0).toNat) (by omega) (by omega)
     omega
   · exact h1
 · rw [List.getD_eq_getElem?_getD, List.getElem?_eq_none (by rw [clr_length]; exact hk)]; decide
/-- The rows behind the first i. -/
def rwI (l : List Int) : Nat -> List Int
 | 0 => l
 | i + 1 => if (rwI l i).getD i 0 = 0 then rwI l i else clr (rwI l i) i l.length
def rkI (l : List Int) : Nat -> Nat
 | 0 => 0
 | i + 1 => if (rwI l i).getD i 0 = 0 then rkI l i else rkI l i + 1
theorem rwI_length (l : List Int) : ∀ i, (rwI l i).length = l.length
 | 0 => rfl
 | i + 1 => by
   rw [rwI]; split
   · exact rwI_length l i
   · rw [clr_length]; exact rwI_length l i
theorem rwI_ok {l : List Int} (h : okR l) : ∀ i, okR (rwI l i)
 | 0 => h
 | i + 1 => by
   rw [rwI]; split
   · exact rwI_ok h i
   · exact clr_ok (rwI_ok h i) _ _
theorem rkI_le (l : List Int) : ∀ i, rkI l i <= i
 | 0 => Nat.le_refl _
 | i + 1 => by
   have := rkI_le l i
   rw [rkI]; split <;> omega
def rk (l : List Int) : Nat := rkI l l.length
theorem call92 (l : List Int) (h : l.length < 1000000 /\ l ≠ []) : GCall Try.prog gl 92 true [.sl U64 l] [] [.own 0 0] [.sc 0 97 U64 l] := by
 refine gcall_of (X := X []) (X_ok []) (f := 92) (fn := Try.f92) (c := bodyOf Try.f92) (by kernel_rfl) (by kernel_rfl) (view := false) (rvs := [.tmp 2]) (by kernel_rfl) (H := fun _ => none) 80 (by kernel_rfl) ?_
 refine of_eq (q := True /\ True /\ ¬l = [] /\ True /\ True /\ sumPre (0 : Nat) l.length (nat_lit 8) /\ True /\ True /\ (True /\ True) /\ id l = l /\ True) (by kernel_rfl) ?_
 simp only [zz]
 exact ⟨h.2, by unfold sumPre; omega, rfl⟩
def e92 : Entry Try.prog gl := entry1 92 ⟨Try.f92, by kernel_rfl, by kernel_rfl, by kernel_rfl⟩ (.sl U64) (fun l => l.length < 1000000 /\ l ≠ []) true (fun _ => [.own 0 0]) (fun l => [.sc 0 97 U64 l]) call92
noncomputable def L86_0 : Code := lp (bodyOf Try.f86) 0
noncomputable def L86_2 : Code := lp (bodyOf Try.f86) 2
def st86 (l : List Int) (i : Nat) : St := ⟨.own 0 0 :: dd 2 ++ .int .i64 (rkI l i) :: dd 6 ++ .int .i64 l.length :: .int .i64 i :: dd 46, [.sc 0 97 U64 (rwI l i)]⟩
def inv86 (l : List Int) (i : Nat) : Prop := i <= l.length
def ex86 (l : List Int) : List (List Nat × Ex) := [([3], ⟨0, Unit, fun _ => True, fun _ => ⟨dd 3 ++ .int .i64 (rk l) :: dd 54, []⟩⟩)]
def h86 (l : List Int) : Hint := ⟨chk 0 [0, 3, 10, 11] (inv86 l) (st86 l), (ex86 l).map (·.2)⟩
def sj86 (l : List Int) (i j : Nat) : St := ⟨.own 0 0 :: dd 2 ++ .int .i64 (rkI l i + 1) :: .int .i64 i :: .int .u64 (lo ((rwI l i).getD i 0).toNat) :: .int .i64 j :: dd 3 ++ .int .i64 l.length :: .int .i64 i :: dd 46, [.sc 0 97 U64 (clr (rwI l i) i j)]⟩
def inj86 (l : List Int) (i j : Nat) : Prop := i < j /\ j <= l.length
def ej86 (l : List Int) (i : Nat) : List (List Nat × Ex) := [([0, 3, 10, 11], ⟨2, Unit, fun _ => True, fun _ => ⟨.own 0 0 :: dd 2 ++ .int .i64 (rkI l i + 1) :: dd 6 ++ .int .i64 l.length :: .int .i64 i :: dd 46, [.sc 0 97 U64 (clr (rwI l i) i l.length)]⟩⟩)]
def hj86 (l : List Int) (i : Nat) : Hint := ⟨chk 0 [0, 3, 4, 5, 6, 10, 11] (inj86 l i) (sj86 l i), (ej86 l i).map (·.2)⟩
theorem loop86b (l : List Int) (i : Nat) (hi : i < l.length) (hl : l.length < 1000000) (ho : okR l) (R : Exit -> St -> Prop) : LoopOK (X [e92]) L86_2 (hj86 l i) R := by
 refine loop_ok (X_ok _) (H := fun _ _ => none) [0, 3, 4, 5, 6, 10, 11] (inj86 l i) (sj86 l i) (fun j => l.length - j) (ej86 l i) 100 fun (j : Nat) hj => ?_
 refine of_eq (q := (fun (p : Int) => (fun (m : Nat) => (fun (k : List Int) => (fun (g : Int) => (fun (f : Prop) => (fun (e : Int) => (fun (o : Int) => (fun (d : Prop) => (fun (c : Int) => (fun (b : Int) => (fun (a : List Int) => (fun (n : Prop) => (fun (h : Prop) => f /\ f /\ f /\ f /\ (e < (a.length : Int) -> f /\ f /\ n /\ f /\ f /\ f /\ f /\ (h -> f /\ f /\ n /\ f /\ f /\ f /\ idxPre g a.length /\ f /\ f /\ n /\ f /\ f /\ inR .i64 o /\ f /\ ∃ (y : Nat), (inj86 l i y /\ m - y < m - j) /\ (f /\ c = c /\ g = g /\ b = b /\ o = (y : Int) /\ d) /\ a.set j (bXor .u64 (a.getD j p) (a.getD i p)) = clr k i y /\ f) /\ (¬h -> f /\ inR .i64 o /\ f /\ ∃ (y : Nat), (inj86 l i y /\ m - y < m - j) /\ (f /\ c = c /\ g = g /\ b = b /\ o = (y : Int) /\ d) /\ a = clr k i y /\ f)) /\ (¬e < (a.length : Int) -> ∃ (y : Unit), f /\ (f /\ c = c /\ d) /\ a = clr k i m /\ f)) (¬bAnd .u64 (a.getD j p) b = p)) (idxPre e a.length)) (clr k i j)) ((↑(lo (k.getD i p).toNat) : Int))) ((↑(rkI l i) : Int) + 1)) ((m : Int) = (m : Int) /\ g = g /\ f)) (e + 1)) ((j : Int))) (True)) ((i : Int))) (rwI l i)) (l.length)) ((0 : Int))) (by kernel_rfl) ?_
 simp only [zz]
 obtain ⟨j1, j2⟩ := hj
 have hlen := rwI_length l i
 have hok := rwI_ok ho i
 rw [clr_length, hlen]
 refine ⟨fun h => ?_, fun h => by rw [show j = l.length by omega]⟩
 rw [clr_self (k := j) (by omega) (by omega), clr_self (k := i) (by omega) (by omega)]
 obtain ⟨a, ha⟩ : ∃ a : Nat, (rwI l i).getD j 0 = a := ⟨((rwI l i).getD j 0).toNat, by have := hok j; omega⟩
 obtain ⟨b, hb⟩ : ∃ b : Nat, (rwI l i).getD i 0 = b := ⟨((rwI l i).getD i 0).toNat, by have := hok i; omega⟩
 have h1 := hok j
 have h2 := hok i
 have h3 := lo_le b
 have hh : hitR (rwI l i) i j = !Nat.beq (a &&& lo b) 0 := by unfold hitR; rw [ha, hb]; try rfl
 rw [ha] at h1
 rw [hb] at h2
 rw [ha, hb]
 simp only [Int.toNat_natCast]
 rw [bAnd_u64 (by omega) (by omega), bXor_u64 (by omega) (by omega)]
 have hn : ∀ z : List Int, z = clr (rwI l i) i (j + 1) -> inR .i64 ((j : Int) + 1) /\ ∃ y : Nat, (inj86 l i y /\ l.length - y < l.length - j) /\ (j : Int) + 1 = (y : Int) /\ z = clr (rwI l i) i y := fun z hz => ⟨by simp only [inR]; omega, j + 1, ⟨⟨by omega, by omega⟩, by omega⟩, by omega, hz⟩
 refine ⟨idx_nat (by omega), fun h0 => ⟨idx_nat (by omega), idx_nat (by omega), idx_nat (by omega), hn _ ?_⟩, fun h0 => hn _ ?_⟩
 · have := clr_hit (l := rwI l i) j1 (by omega) (by rw [hh]; cases hq : Nat.beq (a &&& lo b) 0 with
     | false => rfl
     | true => exact absurd (by have := Nat.eq_of_beq_eq_true hq; omega) h0)
   rw [ha, hb, Int.toNat_natCast, Int.toNat_natCast] at this
   exact this
 · refine (clr_miss ?_).symm
   rw [hh, show a &&& lo b = 0 by omega]; try rfl
theorem loop86 (l : List Int) (hl : l.length < 1000000) (ho : okR l) (R : Exit -> St -> Prop) : LoopOK (X [e92]) L86_0 (h86 l) R := by
 refine loop_ok (X_ok _) (H := fun i _ => some (hj86 l i)) [0, 3, 10, 11] (inv86 l) (st86 l) (fun i => l.length - i) (ex86 l) 150 fun (i : Nat) hi => ?_
 have hL := fun h => loop86b l i h hl ho (bodyR (X [e92]).m0 (ex86 l) R)
 refine of_eq (q := (fun (k : Nat) => (fun (h : Int) => (fun (g : Int) => (fun (e : Prop) => (fun (d : Int) => (fun (c : Int) => (fun (b : Int) => (fun (f : Prop) => (fun (a : List Int) => (fun (m : Int) => (fun (j : Prop) => e /\ (b < d -> e /\ e /\ e /\ e /\ j /\ e /\ e /\ (m = h -> f /\ e /\ ∃ (y : Nat), (inv86 l y /\ k - y < k - i) /\ (e /\ c = (↑(rkI l y) : Int) /\ d = d /\ b + g = (y : Int) /\ e) /\ a = rwI l y /\ e) /\ (¬m = h -> e /\ inR .i64 (c + g) /\ e /\ e /\ e /\ j /\ e /\ e /\ e /\ j /\ e /\ e /\ e /\ e /\ e /\ f /\ e /\ LoopOK (X [e92]) L86_2 (hj86 l i) (bodyR (X [e92]).m0 (ex86 l) R) /\ (∃ (y : Nat), inj86 l i y /\ (e /\ c + g = c + g /\ b = b /\ bAnd .u64 m (modU .u64 (h - m)) = (↑(lo (a.getD i h).toNat) : Int) /\ b + g = (y : Int) /\ d = d /\ b = b /\ e) /\ a = clr a i y /\ e) /\ (∀ (y : Unit), e -> f /\ e /\ ∃ (y : Nat), (inv86 l y /\ k - y < k - i) /\ (e /\ c + g = (↑(rkI l y) : Int) /\ d = d /\ b + g = (y : Int) /\ e) /\ clr a i k = rwI l y /\ e) /\ e)) /\ (¬b < d -> ∃ (y : Unit), e /\ (c = (↑(rk l) : Int) /\ e) /\ e)) (idxPre b a.length)) (a.getD i h)) (rwI l i)) (inR .i64 (b + g))) ((i : Int))) ((↑(rkI l i) : Int))) ((k : Int))) (True)) ((1 : Int))) ((0 : Int))) (l.length)) (by kernel_rfl) ?_
 simp only [zz]
 have hi : i <= l.length := hi
 have hlen := rwI_length l i
 have hok := rwI_ok ho i i
 have hr := rkI_le l i
 rw [hlen]
 refine ⟨fun h => ⟨idx_nat (by omega), fun h0 => ⟨by simp only [inR]; omega, i + 1, ⟨by unfold inv86; omega, by omega⟩, ⟨by rw [rkI, if_pos h0], by omega⟩, by rw [rwI, if_pos h0]⟩, fun h0 => ⟨by simp only [inR]; omega, idx_nat (by omega), idx_nat (by omega), by simp only [inR]; omega, hL (by omega), ⟨i + 1, ⟨by omega, by omega⟩, ⟨?_, by omega⟩, clr_first.symm⟩, fun _ _ => ⟨by simp only [inR]; omega, i + 1, ⟨by unfold inv86; omega, by omega⟩, ⟨by rw [rkI, if_neg h0]; omega, by omega⟩, by rw [rwI, if_neg h0]⟩⟩⟩, fun h => by rw [show i = l.length by omega]; rfl⟩
 obtain ⟨b, hb⟩ : ∃ b : Nat, (rwI l i).getD i 0 = b := ⟨((rwI l i).getD i 0).toNat, by omega⟩
 rw [hb] at hok |-
 rw [lo_u64 (by omega), Int.toNat_natCast]
theorem call86 (l : List Int) (h : (l.length < 1000000 /\ l ≠ []) /\ okR l) : GCall Try.prog gl 86 true [.sl U64 l] [] [.int .i64 (rk l)] [] := by
 refine gcall_of (X := X [e92]) (X_ok [e92]) (f := 86) (fn := Try.f86) (c := bodyOf Try.f86) (by kernel_rfl) (by kernel_rfl) (view := false) (rvs := [.tmp 2]) (by kernel_rfl) (H := (fun _ => some (h86 l))) 80 (by kernel_rfl) ?_
 have hL := loop86 l h.1.1 h.2
 refine of_eq (q := (fun (a : Prop) => a /\ a /\ a /\ ((l.length < 1000000 /\ ¬l = []) /\ a) /\ a /\ a /\ a /\ a /\ LoopOK (X [e92]) L86_0 (h86 l) (RetR (X [e92]) true false [ResultVar.tmp (2 : Tmp)] [AV.int .i64 (↑(rk l) : Int)] []) /\ (∃ (y : Nat), inv86 l y /\ (a /\ (0 : Int) = (↑(rkI l y) : Int) /\ (l.length : Int) = (l.length : Int) /\ (0 : Int) = (y : Int) /\ a) /\ l = rwI l y /\ a) /\ (∀ (y : Unit), a -> a /\ a /\ a /\ ((↑(rk l) : Int) = (↑(rk l) : Int) /\ a) /\ a) /\ a) (True)) (by kernel_rfl) ?_
 simp only [zz]
 exact ⟨h.1, hL _, ⟨0, Nat.zero_le _, ⟨rfl, rfl⟩, rfl⟩, fun _ _ => trivial⟩
end Go.Am.Sh

/- Shells: borders. -/
namespace Go.Am.Sh
open Go Go.Am Go.Proofs
/-- The border of a set, as bits for the sets. -/
def rowK (s : Nat) : Nat -> Nat
 | 0 => 0
 | k + 1 => if s / 2 ^ k % 2 = 1 then rowK s k ||| 2 ^ mns s (2 ^ k) else rowK s k
theorem row_bit : ∀ s : Fin 64, ∀ k : Fin 6, s.val / 2 ^ k.val % 2 = 1 -> mns s.val (2 ^ k.val) < 63 := by decide +kernel
theorem row_hi : ∀ s : Fin 64, ∀ n : Fin 7, s.val < 2 ^ n.val -> ∀ k : Fin 6, n.val <= k.val -> s.val / 2 ^ k.val % 2 = 0 := by decide +kernel
theorem rowK_lt {s : Nat} (hs : s < 64) : ∀ k, k <= 6 -> rowK s k < 9223372036854775808
 | 0, _ => by rw [rowK]; decide
 | k + 1, hk => by
   have ih := rowK_lt hs k (by omega)
   rw [rowK]
   split
   · rename_i hb
     have h1 := row_bit ⟨s, hs⟩ ⟨k, by omega⟩ hb
     exact Nat.or_lt_two_pow (n := 63) ih (Nat.pow_lt_pow_right (by decide) h1)
   · exact ih
theorem rowK_top {s n : Nat} (hs : s < 64) (hn : n <= 6) (h : s < 2 ^ n) : ∀ j, n + j <= 6 -> rowK s (n + j) = rowK s n
 | 0, _ => rfl
 | j + 1, hj => by
   have h1 := row_hi ⟨s, hs⟩ ⟨n, by omega⟩ h ⟨n + j, by omega⟩ (by simp)
   rw [show n + (j + 1) = n + j + 1 by omega, rowK, if_neg (by simp only at h1; omega)]
   exact rowK_top hs hn h j (by omega)
def row (s : Nat) : Nat := rowK s 6
theorem row_eq {s n : Nat} (hs : s < 64) (hn : n <= 6) (h : s < 2 ^ n) : rowK s n = row s := by
 have := rowK_top hs hn h (6 - n) (by omega)
 rw [show n + (6 - n) = 6 by omega] at this
 exact this.symm
/-- The borders of those with m corners among the first k of a list. -/
def brdK (l : List Int) (m : Int) : Nat -> List Int
 | 0 => []
 | k + 1 => if (pc (l.getD k 0).toNat : Int) = m then brdK l m k ++ [(row (l.getD k 0).toNat : Int)] else brdK l m k
theorem brdK_len (l : List Int) (m : Int) : ∀ k, (brdK l m k).length <= k
 | 0 => Nat.le_refl _
 | k + 1 => by
   have := brdK_len l m k
   rw [brdK]; split
   · rw [List.length_append, List.length_singleton]; omega
   · omega
theorem okR_app {l : List Int} (h : okR l) {x : Int} (hx : 0 <= x /\ x < 9223372036854775808) : okR (l ++ [x]) := fun i => by
 rcases Nat.lt_or_ge i l.length with hi | hi
 · rw [getD_append_left hi]; exact h i
 · rw [List.getD_eq_getElem?_getD, List.getElem?_append_right hi]
   rcases Nat.eq_zero_or_pos (i - l.length) with e | e
   · rw [e]; exact hx
   · rw [List.getElem?_eq_none (by simp; omega)]; decide
theorem brdK_ok {l : List Int} (hl : okL l) (m : Int) : ∀ k, okR (brdK l m k)
 | 0 => fun i => by simp [brdK]
 | k + 1 => by
   have hg := okL_get hl k
   have := rowK_lt (s := (l.getD k 0).toNat) (by omega) 6 (Nat.le_refl _)
   rw [brdK]; split
   · exact okR_app (brdK_ok hl m k) ⟨by omega, by unfold row; omega⟩
   · exact brdK_ok hl m k
def brd (p : List Int) (m : Int) : List Int := brdK (fcs p) m (fcs p).length
theorem fcs_lt {n : Int} {p : List Int} (h : cxOk n p) {k : Nat} (hk : k < (fcs p).length) : ((fcs p).getD k 0).toNat < 2 ^ n.toNat := by
 obtain ⟨x, h1, h2, h3⟩ := trueN_mem (mem_getD (d := 0) hk)
 show ((trueN (isF p) 64).getD k 0).toNat < _
 rw [h1, Int.toNat_natCast]
 unfold isF at h3
 obtain ⟨s, hs, h4⟩ := List.any_eq_true.mp h3
 obtain ⟨j, hj, rfl⟩ := List.getElem_of_mem hs
 have h5 := (h.2.2 j hj).2.1
 rw [getD_lt hj] at h5
 obtain ⟨e1, e2, e3⟩ := numOk_pow h.1
 have := sub_le h4
 have := (h.2.2 j hj).1
 rw [getD_lt hj] at this
 omega
noncomputable def L87_0 : Code := lp (bodyOf Try.f87) 0
noncomputable def L87_2 : Code := lp (bodyOf Try.f87) 2
noncomputable abbrev E87 : EL := [e64, e66]
def sz87 (n : Int) (p : List Int) (m : Int) (k : Nat) : St := ⟨.ptr 0 0 [] :: .int .i64 m :: dd 3 ++ nl :: dd 8 ++ .sl I64 (fcs p) :: .int .i64 (fcs p).length :: .int .i64 k :: dd 36, [cxO n p]⟩
def jz87 (n : Int) (p : List Int) (m : Int) (k v : Nat) : St := ⟨.ptr 0 0 [] :: .int .i64 m :: dd 3 ++ nl :: .dead :: .int .i64 ((fcs p).getD k 0) :: .int .u64 (rowK ((fcs p).getD k 0).toNat v) :: dd 5 ++ .sl I64 (fcs p) :: .int .i64 (fcs p).length :: .int .i64 k :: dd 10 ++ .int .i64 n :: .int .i64 v :: dd 24, [cxO n p]⟩
def ejz87 (n : Int) (p : List Int) (m : Int) (k : Nat) : List (List Nat × Ex) := [([0, 1, 5, 8, 14, 15, 16], ⟨2, Unit, fun _ => True, fun _ => ⟨.ptr 0 0 [] :: .int .i64 m :: dd 3 ++ nl :: dd 2 ++ .int .u64 (row ((fcs p).getD k 0).toNat) :: dd 5 ++ .sl I64 (fcs p) :: .int .i64 (fcs p).length :: .int .i64 k :: dd 36, [cxO n p]⟩⟩)]
def hz87 (n : Int) (p : List Int) (m : Int) (k : Nat) : Hint := ⟨chk 1 [0, 1, 5, 7, 8, 14, 15, 16, 27, 28] (fun v => v <= n.toNat) (jz87 n p m k), (ejz87 n p m k).map (·.2)⟩
theorem loop87z (n : Int) (p : List Int) (m : Int) (k : Nat) (h : cxOk n p) (hk : k < (fcs p).length) (R : Exit -> St -> Prop) : LoopOK (X1 E87) L87_2 (hz87 n p m k) R := by
 refine loop_ok (X1_ok _) (H := fun _ _ => none) [0, 1, 5, 7, 8, 14, 15, 16, 27, 28] (fun v => v <= n.toNat) (jz87 n p m k) (fun v => n.toNat - v) (ejz87 n p m k) 100 fun (v : Nat) hv => ?_
 refine of_eq (q := (fun (q : Nat) => (fun (l : Int) => (fun (j : Int) => (fun (h : Prop) => (fun (g : Int) => (fun (f : List Int) => (fun (e : Int) => (fun (o : Prop) => (fun (c : Int) => (fun (b : Prop) => (fun (a : Int) => (fun (i : Int) => (fun (d : Int) => h /\ (e < n -> h /\ h /\ h /\ h /\ inR .u64 e /\ o /\ h /\ h /\ (bAnd .i64 (a / l) g = g -> h /\ h /\ h /\ inR .u64 e /\ (o /\ (-9223372036854775808 : Int) <= g * l /\ g * l <= 9223372036854775807) /\ h /\ inR .u64 d /\ (((0 : Int) <= d /\ d < bitsOf .u64) /\ h) /\ h /\ h /\ inR .i64 (e + g) /\ h /\ ∃ (y : Nat), (y <= q /\ q - y < q - v) /\ (h /\ m = m /\ h /\ a = a /\ bOr .u64 i (modU .u64 (g * 2 ^ d.toNat)) = (↑(rowK a.toNat y) : Int) /\ f = f /\ c = c /\ j = j /\ n = n /\ e + g = (y : Int) /\ h) /\ b) /\ (¬bAnd .i64 (a / l) g = g -> inR .i64 (e + g) /\ h /\ ∃ (y : Nat), (y <= q /\ q - y < q - v) /\ (h /\ m = m /\ h /\ a = a /\ i = (↑(rowK a.toNat y) : Int) /\ f = f /\ c = c /\ j = j /\ n = n /\ e + g = (y : Int) /\ h) /\ b)) /\ (¬e < n -> ∃ (y : Unit), h /\ (h /\ m = m /\ h /\ i = (↑(row a.toNat) : Int) /\ f = f /\ c = c /\ j = j /\ h) /\ b)) (bNot .i64 a (g * l))) ((↑(rowK a.toNat v) : Int))) (f.getD k (0 : Int))) ((n = n /\ p = p /\ mk (isF p) = mk (isF p) /\ h) /\ h)) ((f.length : Int))) ((0 : Int) <= e /\ e < bitsOf .i64)) ((v : Int))) (fcs p)) ((1 : Int))) (True)) ((k : Int))) ((2 : Int) ^ v)) (n.toNat)) (by kernel_rfl) ?_
 simp only [zz]
 have hv : v <= n.toNat := hv
 obtain ⟨n1, n2⟩ := h.1
 have hf := okL_get (fcs_ok p) k
 have hlt := fcs_lt h hk
 obtain ⟨s, hs⟩ : ∃ s : Nat, (fcs p).getD k 0 = s := ⟨((fcs p).getD k 0).toNat, by omega⟩
 rw [hs] at hf hlt |-
 simp only [Int.toNat_natCast] at hlt |-
 have hs64 : s < 64 := by omega
 refine ⟨fun h3 => ?_, fun h3 => by rw [show v = n.toNat by omega, row_eq hs64 (by omega) hlt]⟩
 have hv6 : v < 6 := by omega
 have hR : rowK s (v + 1) = if s / 2 ^ v % 2 = 1 then rowK s v ||| 2 ^ mns s (2 ^ v) else rowK s v := rfl
 have hB := row_bit ⟨s, hs64⟩ ⟨v, hv6⟩
 simp only at hB
 have h2 : 2 ^ v < 64 := Nat.pow_lt_pow_right (a := 2) (by decide) hv6
 have e : (2 ^ v : Int) = ((2 ^ v : Nat) : Int) := by rw [Int.natCast_pow]; try rfl
 rw [e]
 generalize 2 ^ v = P at *
 have e1 : (s : Int) / (P : Int) = ((s / P : Nat) : Int) := by rw [Int.natCast_ediv]
 have h0 : s / P <= s := Nat.div_le_self _ _
 have e2 : bAnd .i64 ((s / P : Nat) : Int) 1 = ((s / P % 2 : Nat) : Int) := by
   have := bAnd_nat (a := s / P) (b := 1) (by omega) (by decide)
   rw [Nat.and_one_is_mod] at this
   exact this
 have e3 : bNot .i64 (s : Int) (1 * (P : Int)) = ((mns s P : Nat) : Int) := by
   rw [Int.one_mul, bNot_nat (by omega) (by omega)]
 have hr := rowK_lt hs64 v (by omega)
 have hn : ∀ z : Int, z = (rowK s (v + 1) : Int) -> inR .i64 ((v : Int) + 1) /\ ∃ y : Nat, (y <= n.toNat /\ n.toNat - y < n.toNat - v) /\ z = (rowK s y : Int) /\ (v : Int) + 1 = (y : Int) := fun z hz => ⟨by simp only [inR]; omega, v + 1, by omega, hz, by omega⟩
 rw [e1, e2, e3]
 refine ⟨by simp only [inR]; omega, by simp only [bitsOf]; omega, fun hb => ?_, fun hb => hn _ ?_⟩
 · have hb' : s / P % 2 = 1 := by omega
   have hm := hB hb'
   have hp : 2 ^ mns s P < 9223372036854775808 := Nat.pow_lt_pow_right (a := 2) (by decide) hm
   have e4 : (2 ^ mns s P : Int) = ((2 ^ mns s P : Nat) : Int) := by rw [Int.natCast_pow]; try rfl
   rw [Int.toNat_natCast, e4]
   rw [if_pos hb'] at hR
   generalize 2 ^ mns s P = Q at *
   have e5 : modU .u64 (1 * (Q : Int)) = (Q : Int) := by
     rw [Int.one_mul]
     show (Q : Int) % 18446744073709551616 = _
     omega
   rw [e5, bOr_u64 (by omega) (by omega)]
   exact ⟨by simp only [inR]; omega, ⟨by simp only [bitsOf]; omega, by omega⟩, by simp only [inR]; omega, by simp only [bitsOf]; omega, hn _ (by rw [hR])⟩
 · rw [hR, if_neg (by omega)]
def st87 (n : Int) (p : List Int) (m : Int) (k : Nat) : St := ⟨.ptr 0 0 [] :: .int .i64 m :: dd 3 ++ .own 1 0 :: dd 8 ++ .sl I64 (fcs p) :: .int .i64 (fcs p).length :: .int .i64 k :: dd 36, [cxO n p, .sc 0 97 U64 (brdK (fcs p) m k)]⟩
def jt87 (n : Int) (p : List Int) (m : Int) (k v : Nat) : St := ⟨.ptr 0 0 [] :: .int .i64 m :: dd 3 ++ .own 1 0 :: .dead :: .int .i64 ((fcs p).getD k 0) :: .int .u64 (rowK ((fcs p).getD k 0).toNat v) :: dd 5 ++ .sl I64 (fcs p) :: .int .i64 (fcs p).length :: .int .i64 k :: dd 10 ++ .int .i64 n :: .int .i64 v :: dd 24, [cxO n p, .sc 0 97 U64 (brdK (fcs p) m k)]⟩
def ejt87 (n : Int) (p : List Int) (m : Int) (k : Nat) : List (List Nat × Ex) := [([0, 1, 5, 8, 14, 15, 16], ⟨2, Unit, fun _ => True, fun _ => ⟨.ptr 0 0 [] :: .int .i64 m :: dd 3 ++ .own 1 0 :: dd 2 ++ .int .u64 (row ((fcs p).getD k 0).toNat) :: dd 5 ++ .sl I64 (fcs p) :: .int .i64 (fcs p).length :: .int .i64 k :: dd 36, [cxO n p, .sc 0 97 U64 (brdK (fcs p) m k)]⟩⟩)]
def ht87 (n : Int) (p : List Int) (m : Int) (k : Nat) : Hint := ⟨chk 1 [0, 1, 5, 7, 8, 14, 15, 16, 27, 28] (fun v => v <= n.toNat) (jt87 n p m k), (ejt87 n p m k).map (·.2)⟩
theorem loop87t (n : Int) (p : List Int) (m : Int) (k : Nat) (h : cxOk n p) (hk : k < (fcs p).length) (R : Exit -> St -> Prop) : LoopOK (X1 E87) L87_2 (ht87 n p m k) R := by
 refine loop_ok (X1_ok _) (H := fun _ _ => none) [0, 1, 5, 7, 8, 14, 15, 16, 27, 28] (fun v => v <= n.toNat) (jt87 n p m k) (fun v => n.toNat - v) (ejt87 n p m k) 100 fun (v : Nat) hv => ?_
 refine of_eq (q := (fun (q : Nat) => (fun (l : Int) => (fun (j : Int) => (fun (h : Prop) => (fun (g : Int) => (fun (e : Int) => (fun (o : Prop) => (fun (c : List Int) => (fun (f : Int) => (fun (b : Prop) => (fun (a : Int) => (fun (i : Int) => (fun (d : Int) => h /\ (e < n -> h /\ h /\ h /\ h /\ inR .u64 e /\ o /\ h /\ h /\ (bAnd .i64 (a / l) g = g -> h /\ h /\ h /\ inR .u64 e /\ (o /\ (-9223372036854775808 : Int) <= g * l /\ g * l <= 9223372036854775807) /\ h /\ inR .u64 d /\ (((0 : Int) <= d /\ d < bitsOf .u64) /\ h) /\ h /\ h /\ inR .i64 (e + g) /\ h /\ ∃ (y : Nat), (y <= q /\ q - y < q - v) /\ (h /\ m = m /\ h /\ a = a /\ bOr .u64 i (modU .u64 (g * 2 ^ d.toNat)) = (↑(rowK a.toNat y) : Int) /\ c = c /\ f = f /\ j = j /\ n = n /\ e + g = (y : Int) /\ h) /\ b) /\ (¬bAnd .i64 (a / l) g = g -> inR .i64 (e + g) /\ h /\ ∃ (y : Nat), (y <= q /\ q - y < q - v) /\ (h /\ m = m /\ h /\ a = a /\ i = (↑(rowK a.toNat y) : Int) /\ c = c /\ f = f /\ j = j /\ n = n /\ e + g = (y : Int) /\ h) /\ b)) /\ (¬e < n -> ∃ (y : Unit), h /\ (h /\ m = m /\ h /\ i = (↑(row a.toNat) : Int) /\ c = c /\ f = f /\ j = j /\ h) /\ b)) (bNot .i64 a (g * l))) ((↑(rowK a.toNat v) : Int))) (c.getD k (0 : Int))) ((n = n /\ p = p /\ mk (isF p) = mk (isF p) /\ h) /\ brdK c m k = brdK c m k /\ h)) ((c.length : Int))) (fcs p)) ((0 : Int) <= e /\ e < bitsOf .i64)) ((v : Int))) ((1 : Int))) (True)) ((k : Int))) ((2 : Int) ^ v)) (n.toNat)) (by kernel_rfl) ?_
 simp only [zz]
 have hv : v <= n.toNat := hv
 obtain ⟨n1, n2⟩ := h.1
 have hf := okL_get (fcs_ok p) k
 have hlt := fcs_lt h hk
 obtain ⟨s, hs⟩ : ∃ s : Nat, (fcs p).getD k 0 = s := ⟨((fcs p).getD k 0).toNat, by omega⟩
 rw [hs] at hf hlt |-
 simp only [Int.toNat_natCast] at hlt |-
 have hs64 : s < 64 := by omega
 refine ⟨fun h3 => ?_, fun h3 => by rw [show v = n.toNat by omega, row_eq hs64 (by omega) hlt]⟩
 have hv6 : v < 6 := by omega
 have hR : rowK s (v + 1) = if s / 2 ^ v % 2 = 1 then rowK s v ||| 2 ^ mns s (2 ^ v) else rowK s v := rfl
 have hB := row_bit ⟨s, hs64⟩ ⟨v, hv6⟩
 simp only at hB
 have h2 : 2 ^ v < 64 := Nat.pow_lt_pow_right (a := 2) (by decide) hv6
 have e : (2 ^ v : Int) = ((2 ^ v : Nat) : Int) := by rw [Int.natCast_pow]; try rfl
 rw [e]
 generalize 2 ^ v = P at *
 have e1 : (s : Int) / (P : Int) = ((s / P : Nat) : Int) := by rw [Int.natCast_ediv]
 have h0 : s / P <= s := Nat.div_le_self _ _
 have e2 : bAnd .i64 ((s / P : Nat) : Int) 1 = ((s / P % 2 : Nat) : Int) := by
   have := bAnd_nat (a := s / P) (b := 1) (by omega) (by decide)
   rw [Nat.and_one_is_mod] at this
   exact this
 have e3 : bNot .i64 (s : Int) (1 * (P : Int)) = ((mns s P : Nat) : Int) := by
   rw [Int.one_mul, bNot_nat (by omega) (by omega)]
 have hr := rowK_lt hs64 v (by omega)
 have hn : ∀ z : Int, z = (rowK s (v + 1) : Int) -> inR .i64 ((v : Int) + 1) /\ ∃ y : Nat, (y <= n.toNat /\ n.toNat - y < n.toNat - v) /\ z = (rowK s y : Int) /\ (v : Int) + 1 = (y : Int) := fun z hz => ⟨by simp only [inR]; omega, v + 1, by omega, hz, by omega⟩
 rw [e1, e2, e3]
 refine ⟨by simp only [inR]; omega, by simp only [bitsOf]; omega, fun hb => ?_, fun hb => hn _ ?_⟩
 · have hb' : s / P % 2 = 1 := by omega
   have hm := hB hb'
   have hp : 2 ^ mns s P < 9223372036854775808 := Nat.pow_lt_pow_right (a := 2) (by decide) hm
   have e4 : (2 ^ mns s P : Int) = ((2 ^ mns s P : Nat) : Int) := by rw [Int.natCast_pow]; try rfl
   rw [Int.toNat_natCast, e4]
   rw [if_pos hb'] at hR
   generalize 2 ^ mns s P = Q at *
   have e5 : modU .u64 (1 * (Q : Int)) = (Q : Int) := by
     rw [Int.one_mul]
     show (Q : Int) % 18446744073709551616 = _
     omega
   rw [e5, bOr_u64 (by omega) (by omega)]
   exact ⟨by simp only [inR]; omega, ⟨by simp only [bitsOf]; omega, by omega⟩, by simp only [inR]; omega, by simp only [bitsOf]; omega, hn _ (by rw [hR])⟩
 · rw [hR, if_neg (by omega)]
noncomputable def fm87 (n : Int) (p : List Int) (m : Int) : List Fam := [⟨Nat, fun k => k <= (fcs p).length /\ brdK (fcs p) m k = [], sz87 n p m, fun k => (fcs p).length - k, fun k _ => some (hz87 n p m k)⟩, ⟨Nat, fun k => k <= (fcs p).length /\ brdK (fcs p) m k ≠ [], st87 n p m, fun k => (fcs p).length - k, fun k _ => some (ht87 n p m k)⟩]
def ex87 (n : Int) (p : List Int) (m : Int) : List (List Nat × Ex) := [([5], ⟨0, Unit, fun _ => brd p m = [], fun _ => ⟨dd 5 ++ nl :: dd 47, [cxO n p]⟩⟩), ([5], ⟨0, Unit, fun _ => brd p m ≠ [], fun _ => ⟨dd 5 ++ .own 1 0 :: dd 47, [cxO n p, .sc 0 97 U64 (brd p m)]⟩⟩)]
noncomputable def H87 (n : Int) (p : List Int) (m : Int) : Nat -> Option Hint := fun _ => some ⟨chks 1 [0, 1, 5, 14, 15, 16] (fm87 n p m), (ex87 n p m).map (·.2)⟩
theorem loop87 (n : Int) (p : List Int) (m : Int) (h : cxOk n p) (R : Exit -> St -> Prop) : LoopOK (X1 E87) L87_0 ⟨chks 1 [0, 1, 5, 14, 15, 16] (fm87 n p m), (ex87 n p m).map (·.2)⟩ R := by
 refine loop_fams (X1_ok _) [0, 1, 5, 14, 15, 16] (fm87 n p m) (ex87 n p m) 150 ⟨fun (k : Nat) hk => ?_, fun (k : Nat) hk => ?_, trivial⟩
 · have hL := fun h1 => loop87z n p m k h h1
   refine of_eq (q := (fun (h : Int) => (fun (g : Int) => (fun (e : Int) => (fun (d : Prop) => (fun (b : Prop) => (fun (a : List Int) => (fun (l : Int) => (fun (j : Int) => (fun (i : Prop) => (fun (f : Nat) => (fun (c : Int) => d /\ (h < c -> idxPre h a.length /\ d /\ d /\ d /\ ((g <= l /\ l < 64) /\ d) /\ d /\ d /\ (i -> inR .i64 e /\ d /\ ((∃ (y : Nat), ((y <= f /\ brdK a m y = []) /\ f - y < f - k) /\ (d /\ m = m /\ d /\ a = a /\ c = c /\ e = (y : Int) /\ d) /\ b /\ d) ∨ ∃ (y : Nat), ((y <= f /\ ¬brdK a m y = []) /\ f - y < f - k) /\ (d /\ m = m /\ False /\ a = a /\ c = c /\ e = (y : Int) /\ d) /\ b /\ False)) /\ (¬i -> d /\ d /\ d /\ d /\ d /\ d /\ LoopOK (X1 E87) L87_2 (hz87 n p m k) (bodyR (X1 E87).m0 (ex87 n p m) R) /\ (∃ (y : Nat), y <= n.toNat /\ (d /\ m = m /\ d /\ l = a.getD k g /\ g = (↑(rowK (a.getD k g).toNat y) : Int) /\ a = a /\ c = c /\ h = h /\ n = n /\ g = (y : Int) /\ d) /\ b /\ d) /\ (∀ (y : Unit), d -> d /\ d /\ d /\ sumPre (0 : Nat) [j].length (nat_lit 8) /\ d /\ inR .i64 e /\ d /\ ((∃ (y : Nat), ((y <= f /\ brdK a m y = []) /\ f - y < f - k) /\ (d /\ m = m /\ False /\ a = a /\ c = c /\ e = (y : Int) /\ d) /\ b /\ d) ∨ ∃ (y : Nat), ((y <= f /\ ¬brdK a m y = []) /\ f - y < f - k) /\ (d /\ m = m /\ d /\ a = a /\ c = c /\ e = (y : Int) /\ d) /\ b /\ [j] = brdK a m y /\ d)) /\ d)) /\ (¬h < c -> (∃ (y : Unit), brd p m = [] /\ (d /\ d) /\ b /\ d) ∨ ∃ (y : Unit), ¬brd p m = [] /\ (False /\ d) /\ b /\ False)) ((f : Int))) (a.length)) (¬(↑(pc l.toNat) : Int) = m)) ((↑(row (a.getD k g).toNat) : Int))) (a.getD k g)) (fcs p)) (n = n /\ p = p /\ mk (isF p) = mk (isF p) /\ d)) (True)) (h + 1)) ((0 : Int))) ((k : Int))) (by kernel_rfl) ?_
   simp only [zz]
   obtain ⟨k1, k2⟩ := hk
   have hl := fcs_len p
   have hz : ∃ y : Nat, y <= n.toNat /\ (0 : Int) = (rowK ((fcs p).getD k 0).toNat y : Int) /\ (0 : Int) = (y : Int) := ⟨0, Nat.zero_le _, rfl, rfl⟩
   refine ⟨fun h3 => ⟨idx_nat (by omega), okL_get (fcs_ok p) k, fun h4 => ⟨by simp only [inR]; omega, k + 1, ⟨⟨by omega, by rw [brdK, if_neg h4]; exact k2⟩, by omega⟩, by omega⟩, fun h4 => ⟨hL (by omega) _, hz, fun _ _ => ⟨by unfold sumPre; simp, by simp only [inR]; omega, k + 1, ⟨⟨by omega, ?_⟩, by omega⟩, by omega, ?_⟩⟩⟩, fun h3 => by unfold brd; rw [show (fcs p).length = k by omega]; exact k2⟩
   · rw [brdK, if_pos (Classical.not_not.mp h4)]; simp
   · rw [brdK, if_pos (Classical.not_not.mp h4), k2]; try rfl
 · have hL := fun h1 => loop87t n p m k h h1
   refine of_eq (q := (fun (h : Int) => (fun (f : Int) => (fun (l : Int) => (fun (e : Prop) => (fun (b : Prop) => (fun (a : List Int) => (fun (q : Int) => (fun (o : Int) => (fun (j : Prop) => (fun (i : Nat) => (fun (g : List Int) => (fun (d : Int) => (fun (c : Prop) => e /\ (f < d -> idxPre f a.length /\ e /\ e /\ e /\ ((h <= q /\ q < 64) /\ e) /\ e /\ e /\ (j -> inR .i64 l /\ e /\ (c ∨ ∃ (y : Nat), ((y <= i /\ ¬brdK a m y = []) /\ i - y < i - k) /\ (e /\ m = m /\ e /\ a = a /\ d = d /\ l = (y : Int) /\ e) /\ b /\ g = brdK a m y /\ e)) /\ (¬j -> e /\ e /\ e /\ e /\ e /\ e /\ LoopOK (X1 E87) L87_2 (ht87 n p m k) (bodyR (X1 E87).m0 (ex87 n p m) R) /\ (∃ (y : Nat), y <= n.toNat /\ (e /\ m = m /\ e /\ q = a.getD k h /\ h = (↑(rowK (a.getD k h).toNat y) : Int) /\ a = a /\ d = d /\ f = f /\ n = n /\ h = (y : Int) /\ e) /\ b /\ g = g /\ e) /\ (∀ (y : Unit), e -> e /\ e /\ e /\ sumPre g.length [o].length (nat_lit 8) /\ e /\ inR .i64 l /\ e /\ (c ∨ ∃ (y : Nat), ((y <= i /\ ¬brdK a m y = []) /\ i - y < i - k) /\ (e /\ m = m /\ e /\ a = a /\ d = d /\ l = (y : Int) /\ e) /\ b /\ g ++ [o] = brdK a m y /\ e)) /\ e)) /\ (¬f < d -> (∃ (y : Unit), brd p m = [] /\ (False /\ e) /\ b /\ e) ∨ ∃ (y : Unit), ¬brd p m = [] /\ (e /\ e) /\ b /\ g = brd p m /\ e)) (∃ (y : Nat), ((y <= i /\ brdK a m y = []) /\ i - y < i - k) /\ (e /\ m = m /\ False /\ a = a /\ d = d /\ l = (y : Int) /\ e) /\ b /\ e)) ((i : Int))) (brdK a m k)) (a.length)) (¬(↑(pc q.toNat) : Int) = m)) ((↑(row (a.getD k h).toNat) : Int))) (a.getD k h)) (fcs p)) (n = n /\ p = p /\ mk (isF p) = mk (isF p) /\ e)) (True)) (f + 1)) ((k : Int))) ((0 : Int))) (by kernel_rfl) ?_
   simp only [zz]
   obtain ⟨k1, k2⟩ := hk
   have hl := fcs_len p
   have hb := brdK_len (fcs p) m k
   have hz : ∃ y : Nat, y <= n.toNat /\ (0 : Int) = (rowK ((fcs p).getD k 0).toNat y : Int) /\ (0 : Int) = (y : Int) := ⟨0, Nat.zero_le _, rfl, rfl⟩
   refine ⟨fun h3 => ⟨idx_nat (by omega), okL_get (fcs_ok p) k, fun h4 => ⟨by simp only [inR]; omega, k + 1, ⟨⟨by omega, by rw [brdK, if_neg h4]; exact k2⟩, by omega⟩, by omega, by rw [brdK, if_neg h4]⟩, fun h4 => ⟨hL (by omega) _, hz, fun _ _ => ⟨by unfold sumPre; simp; omega, by simp only [inR]; omega, k + 1, ⟨⟨by omega, ?_⟩, by omega⟩, by omega, ?_⟩⟩⟩, fun h3 => by unfold brd; rw [show (fcs p).length = k by omega]; exact ⟨k2, rfl⟩⟩
   · rw [brdK, if_pos (Classical.not_not.mp h4)]; simp
   · rw [brdK, if_pos (Classical.not_not.mp h4)]; try rfl
theorem call87 (n : Int) (p : List Int) (m : Int) (h : cxOk n p /\ brd p m ≠ []) : GCall Try.prog gl 87 false [.ptr 0 0 [], .int .i64 m] [cxO n p] [.sl U64 (brd p m)] [cxO n p] := by
 refine gcall_of (X := (X1 E87)) ((X1_ok _)) (f := 87) (fn := Try.f87) (c := bodyOf Try.f87) (by kernel_rfl) (by kernel_rfl) (view := true) (rvs := [.tmp 4]) (by kernel_rfl) (H := (H87 n p m)) 80 (by kernel_rfl) ?_
 have hL := loop87 n p m h.1
 refine of_eq (q := (fun (f : List Int) => (fun (e : Prop) => (fun (d : List Int) => (fun (a : List Bool) => (fun (c : Prop) => (fun (b : List Int) => (fun (g : Prop) => e /\ e /\ e /\ e /\ e /\ e /\ (a.length = 64 /\ e) /\ e /\ e /\ LoopOK (X1 E87) L87_0 { J := chks (1 : Nat) [(0 : Nat), (1 : Nat), (5 : Nat), (14 : Nat), (15 : Nat), (16 : Nat)] (fm87 n p m), exits := List.map (fun (x : List Nat × Ex) => x.snd) (ex87 n p m) } (RetR (X1 E87) false true [ResultVar.tmp (4 : Tmp)] [AV.sl U64 f] [cxO n p]) /\ ((∃ (y : Nat), (y <= d.length /\ brdK d m y = []) /\ (e /\ m = m /\ e /\ b = d /\ g /\ (0 : Int) = (y : Int) /\ e) /\ c /\ e) ∨ ∃ (y : Nat), (y <= d.length /\ ¬brdK d m y = []) /\ (e /\ m = m /\ False /\ b = d /\ g /\ (0 : Int) = (y : Int) /\ e) /\ c /\ False) /\ (∀ (y : Unit), f = [] -> e /\ e /\ e /\ (([] : List Int) = f /\ e) /\ c /\ e) /\ (∀ (y : Unit), ¬f = [] -> e /\ e /\ e /\ (f = f /\ e) /\ c /\ e) /\ e) ((b.length : Int) = (d.length : Int))) (trueN (gB a) (64 : Nat))) (n = n /\ p = p /\ a = a /\ e)) (mk (isF p))) (fcs p)) (True)) (brd p m)) (by kernel_rfl) ?_
 simp only [zz]
 exact ⟨mk_length _, hL _, ⟨0, ⟨Nat.zero_le _, rfl⟩, trueN_mk _, by rw [trueN_mk]; rfl, rfl⟩, fun _ e => e.symm, fun _ _ => trivial⟩
def getCxm (xs : List AV) (obs : List Ob) : Option (Int × Cx3) :=
 match xs with
 | [_, m] => (match toInt .i64 m, unCx (obs.getD 0 .gone) with
   | some m, some x => some (m, x)
   | _, _ => none)
 | _ => none
structure brdOk (x : Int × Cx3) : Prop where
 h : okC x.2
 b : brd x.2.2.1 x.1 ≠ []
structure brdNo (x : Int × Cx3) : Prop where
 h : okC x.2
 b : brd x.2.2.1 x.1 = []
def e87 : Entry Try.prog gl := entryW 87 ⟨Try.f87, by kernel_rfl, by kernel_rfl, by kernel_rfl⟩ true getCxm brdOk false (fun x => [.ptr 0 0 [], .int .i64 x.1]) (fun x => [cxQ x.2]) (fun x => [.sl U64 (brd x.2.2.1 x.1)]) (fun x => [cxQ x.2]) (fun x h => by rw [cxQ_ok h.h]; exact call87 _ _ _ ⟨h.h.h, h.b⟩)
theorem call87N (n : Int) (p : List Int) (m : Int) (h : cxOk n p /\ brd p m = []) : GCall Try.prog gl 87 false [.ptr 0 0 [], .int .i64 m] [cxO n p] [nl] [cxO n p] := by
 refine gcall_of (X := (X1 E87)) ((X1_ok _)) (f := 87) (fn := Try.f87) (c := bodyOf Try.f87) (by kernel_rfl) (by kernel_rfl) (view := false) (rvs := [.tmp 4]) (by kernel_rfl) (H := (H87 n p m)) 80 (by kernel_rfl) ?_
 have hL := loop87 n p m h.1
 refine of_eq (q := (fun (e : Prop) => (fun (d : List Int) => (fun (a : List Bool) => (fun (c : Prop) => (fun (b : List Int) => (fun (f : Prop) => e /\ e /\ e /\ e /\ e /\ e /\ (a.length = 64 /\ e) /\ e /\ e /\ LoopOK (X1 E87) L87_0 { J := chks (1 : Nat) [(0 : Nat), (1 : Nat), (5 : Nat), (14 : Nat), (15 : Nat), (16 : Nat)] (fm87 n p m), exits := List.map (fun (x : List Nat × Ex) => x.snd) (ex87 n p m) } (RetR (X1 E87) false false [ResultVar.tmp (4 : Tmp)] [nl] [cxO n p]) /\ ((∃ (y : Nat), (y <= d.length /\ brdK d m y = []) /\ (e /\ m = m /\ e /\ b = d /\ f /\ (0 : Int) = (y : Int) /\ e) /\ c /\ e) ∨ ∃ (y : Nat), (y <= d.length /\ ¬brdK d m y = []) /\ (e /\ m = m /\ False /\ b = d /\ f /\ (0 : Int) = (y : Int) /\ e) /\ c /\ False) /\ (∀ (y : Unit), brd p m = [] -> e /\ e /\ e /\ (e /\ e) /\ c /\ e) /\ (∀ (y : Unit), ¬brd p m = [] -> e /\ e /\ e /\ (False /\ e) /\ c /\ e) /\ e) ((b.length : Int) = (d.length : Int))) (trueN (gB a) (64 : Nat))) (n = n /\ p = p /\ a = a /\ e)) (mk (isF p))) (fcs p)) (True)) (by kernel_rfl) ?_
 simp only [zz]
 exact ⟨mk_length _, hL _, ⟨0, ⟨Nat.zero_le _, rfl⟩, trueN_mk _, by rw [trueN_mk]; rfl, rfl⟩, fun _ _ => trivial, fun _ e => e h.2⟩
def e87N : Entry Try.prog gl := entryW 87 ⟨Try.f87, by kernel_rfl, by kernel_rfl, by kernel_rfl⟩ true getCxm brdNo false (fun x => [.ptr 0 0 [], .int .i64 x.1]) (fun x => [cxQ x.2]) (fun _ => [nl]) (fun x => [cxQ x.2]) (fun x h => by rw [cxQ_ok h.h]; exact call87N _ _ _ ⟨h.h.h, h.b⟩)
end Go.Am.Sh

/- Shells: hollow numbers. -/
namespace Go.Am.Sh
open Go Go.Am Go.Proofs
theorem trueN_has {g : Nat -> Bool} : ∀ {k x : Nat}, x < k -> g x = true -> (x : Int) ∈ trueN g k
 | 0, x, h, _ => absurd h (Nat.not_lt_zero _)
 | k + 1, x, h, hg => by
   rw [trueN]
   by_cases e : x = k
   · subst e; rw [if_pos hg]; simp
   · have := trueN_has (g := g) (k := k) (x := x) (by omega) hg
     split
     · exact List.mem_append_left _ this
     · exact this
theorem brdK_nil {l : List Int} {m : Int} : ∀ {k : Nat}, brdK l m k = [] ↔ ∀ j, j < k -> (pc (l.getD j 0).toNat : Int) ≠ m
 | 0 => ⟨fun _ j hj => absurd hj (Nat.not_lt_zero _), fun _ => rfl⟩
 | k + 1 => by
   rw [brdK]
   by_cases h : (pc (l.getD k 0).toNat : Int) = m
   · rw [if_pos h]
     exact ⟨fun e => by simp at e, fun e => absurd h (e k (by omega))⟩
   · rw [if_neg h, brdK_nil]
     constructor
     · intro h2 j hj
       by_cases e : j = k
       · subst e; exact h
       · exact h2 j (by omega)
     · intro h2 j hj
       exact h2 j (by omega)
theorem part_pc : ∀ s : Fin 64, ∀ m : Fin 7, m.val <= pc s.val -> ∃ x : Fin 64, sub x.val s.val = true /\ pc x.val = m.val := by decide +kernel
theorem mxK_at (p : List Int) : ∀ k, k <= p.length -> mxK p k = 0 ∨ ∃ j, j < k /\ mxK p k = pc (p.getD j 0).toNat
 | 0, _ => .inl rfl
 | k + 1, h => by
   have ih := mxK_at p k (by omega)
   rw [mxK_step (by omega)]
   unfold maxI
   split
   · rcases ih with h1 | ⟨j, h1, h2⟩
     · first | exact .inl h1 | exact .inr ⟨k, by omega, rfl⟩
     · first | exact .inr ⟨j, by omega, h2⟩ | exact .inr ⟨k, by omega, rfl⟩
   · rcases ih with h1 | ⟨j, h1, h2⟩
     · first | exact .inr ⟨k, by omega, rfl⟩ | exact .inl h1
     · first | exact .inr ⟨k, by omega, rfl⟩ | exact .inr ⟨j, by omega, h2⟩
theorem brd_some {p : List Int} (hp : okL p) {m : Nat} (h1 : 1 <= m) (h : (m : Int) <= mxL p) : brd p m ≠ [] := by
 intro e
 have e := brdK_nil.mp e
 have hm := mxK_le p p.length (Nat.le_refl _)
 rcases mxK_at p p.length (Nat.le_refl _) with h0 | ⟨j, hj, h0⟩
 · unfold mxL at h; omega
 · have hg := hp _ (mem_getD (d := 0) hj)
   unfold mxL at h
   obtain ⟨x, hx1, hx2⟩ := part_pc ⟨(p.getD j 0).toNat, by omega⟩ ⟨m, by omega⟩ (by simp only; omega)
   have hf : isF p x.val = true := List.any_eq_true.mpr ⟨_, mem_getD (d := 0) hj, hx1⟩
   have hmem := trueN_has x.isLt hf
   obtain ⟨i, hi, hix⟩ := List.getElem_of_mem hmem
   have hi' : i < (fcs p).length := hi
   have := e i hi'
   have h3 : (fcs p).getD i 0 = (x.val : Int) := by rw [getD_lt hi']; exact hix
   rw [h3, Int.toNat_natCast, hx2] at this
   exact this rfl
theorem brd_none {p : List Int} (hp : okL p) {m : Int} (h : mxL p < m) : brd p m = [] :=
 brdK_nil.mpr fun j hj => by
   have := fcs_pc hp hj
   have := (mxK_le p p.length (Nat.le_refl _)).1
   unfold mxL at *
   omega
def getNl (xs : List AV) (_ : List Ob) : Option Unit :=
 match xs with
 | [.vv (.slice none 0 0)] => some ()
 | _ => none
theorem call92N (_ : Unit) (_ : True) : GCall Try.prog gl 92 true [nl] [] [nl] [] := by
 refine gcall_of (X := X []) (X_ok []) (f := 92) (fn := Try.f92) (c := bodyOf Try.f92) (by kernel_rfl) (by kernel_rfl) (view := false) (rvs := [.tmp 2]) (by kernel_rfl) (H := fun _ => none) 80 (by kernel_rfl) ?_
 refine of_eq (q := True /\ True /\ True /\ True /\ True /\ (True /\ True) /\ True) (by kernel_rfl) ?_
 trivial
def e92N : Entry Try.prog gl := entryW 92 ⟨Try.f92, by kernel_rfl, by kernel_rfl, by kernel_rfl⟩ false getNl (fun _ => True) true (fun _ => [nl]) (fun _ => []) (fun _ => [nl]) (fun _ => []) call92N
def st86N (_ : Unit) : St := ⟨nl :: dd 2 ++ .int .i64 0 :: dd 6 ++ .int .i64 0 :: .int .i64 0 :: dd 46, []⟩
def ex86N : List (List Nat × Ex) := [([3], ⟨0, Unit, fun _ => True, fun _ => ⟨dd 3 ++ .int .i64 0 :: dd 54, []⟩⟩)]
def h86N : Hint := ⟨chk 0 [0, 3, 10, 11] (fun _ => True) st86N, ex86N.map (·.2)⟩
theorem loop86N (R : Exit -> St -> Prop) : LoopOK (X [e92N]) L86_0 h86N R := by
 refine loop_ok (X_ok _) (H := fun _ _ => none) [0, 3, 10, 11] (fun _ => True) st86N (fun _ => 0) ex86N 100 fun _ _ => ?_
 refine of_eq (q := True /\ ((0 : Int) < 0 -> True /\ True /\ True /\ True /\ False) /\ (¬(0 : Int) < 0 -> ∃ (y : Unit), True /\ ((0 : Int) = 0 /\ True) /\ True)) (by kernel_rfl) ?_
 simp only [zz]
 exact ⟨fun h => absurd h (by decide), fun _ => trivial⟩
theorem call86N (_ : Unit) (_ : True) : GCall Try.prog gl 86 true [nl] [] [.int .i64 0] [] := by
 refine gcall_of (X := X [e92N]) (X_ok [e92N]) (f := 86) (fn := Try.f86) (c := bodyOf Try.f86) (by kernel_rfl) (by kernel_rfl) (view := false) (rvs := [.tmp 2]) (by kernel_rfl) (H := (fun _ => some h86N)) 80 (by kernel_rfl) ?_
 have hL := loop86N
 refine of_eq (q := (fun (b : Int) => (fun (a : Prop) => a /\ a /\ a /\ ((a /\ (a /\ a) /\ a) /\ a) /\ a /\ a /\ a /\ a /\ LoopOK (X [e92N]) L86_0 h86N (RetR (X [e92N]) true false [ResultVar.tmp (2 : Tmp)] [AV.int .i64 b] []) /\ (∃ (y : Unit), a /\ (a /\ b = b /\ b = b /\ b = b /\ a) /\ a) /\ (∀ (y : Unit), a -> a /\ a /\ a /\ (b = b /\ a) /\ a) /\ a) (True)) ((0 : Int))) (by kernel_rfl) ?_
 simp only [zz]
 exact ⟨hL _, fun _ _ => trivial⟩
def e86N : Entry Try.prog gl := entryW 86 ⟨Try.f86, by kernel_rfl, by kernel_rfl, by kernel_rfl⟩ false getNl (fun _ => True) true (fun _ => [nl]) (fun _ => []) (fun _ => [.int .i64 0]) (fun _ => []) call86N
def e86 : Entry Try.prog gl := entry1 86 ⟨Try.f86, by kernel_rfl, by kernel_rfl, by kernel_rfl⟩ (.sl U64) (fun l => (l.length < 1000000 /\ l ≠ []) /\ okR l) true (fun l => [.int .i64 (rk l)]) (fun _ => []) call86
/-- The first k hollow numbers. -/
def hoK (p : List Int) : Nat -> List Int
 | 0 => []
 | k + 1 => hoK p k ++ [(cnts p).getD (k + 1) 0 - (rk (brd p ((k : Int) + 1)) : Int) - (rk (brd p ((k : Int) + 1 + 1)) : Int)]
theorem hoK_length (p : List Int) : ∀ k, (hoK p k).length = k
 | 0 => rfl
 | k + 1 => by rw [hoK, List.length_append, hoK_length p k]; try rfl
def hoL (p : List Int) : List Int := hoK p (mxL p).toNat
noncomputable def XD1 (l : EL) (d : List (Nat × EL)) : Cy := mkD Try.prog tt gl l d 1 (fun _ => none)
theorem XD1_ok (l : EL) (d : List (Nat × EL)) : (XD1 l d).Ok := mkD_ok tt_ok l d 1 _
noncomputable def L67_0 : Code := lp (bodyOf Try.f67) 0
noncomputable abbrev X67 : Cy := XD1 [e65, e87, e86] []
noncomputable abbrev X67e : Cy := XD1 [e65, e87, e86] [(23, [e87N]), (24, [e86N])]
def sz67 (n : Int) (p : List Int) (_ : Unit) : St := ⟨.ptr 0 0 [] :: dd 2 ++ nl :: .sl I64 (cnts p) :: .int .i64 1 :: dd 31, [cxO n p]⟩
def st67 (n : Int) (p : List Int) (k : Nat) : St := ⟨.ptr 0 0 [] :: dd 2 ++ .own 1 0 :: .sl I64 (cnts p) :: .int .i64 ((k : Int) + 1) :: dd 31, [cxO n p, .sc 0 3 I64 (hoK p k)]⟩
def fm67 (n : Int) (p : List Int) : List Fam := [⟨Unit, fun _ => True, sz67 n p, fun _ => 10, fun _ _ => none⟩, ⟨Nat, fun k => 1 <= k /\ (k : Int) <= mxL p, st67 n p, fun k => (mxL p).toNat - k, fun _ _ => none⟩]
def ex67 (n : Int) (p : List Int) : List (List Nat × Ex) := [([3], ⟨0, Unit, fun _ => True, fun _ => ⟨dd 3 ++ .own 1 0 :: dd 33, [cxO n p, .sc 0 3 I64 (hoL p)]⟩⟩)]
noncomputable def H67 (n : Int) (p : List Int) : Nat -> Option Hint := fun _ => some ⟨chks 1 [0, 3, 4, 5] (fm67 n p), (ex67 n p).map (·.2)⟩
theorem pc_pos : ∀ s : Fin 64, 1 <= s.val -> 1 <= pc s.val := by decide +kernel
theorem mxL_pos {n : Int} {p : List Int} (h : cxOk n p) : 1 <= mxL p := by
 have h1 := mxK_ge (p := p) (Nat.le_refl _) 0 (by have := h.2.1.1; omega)
 have h2 := (h.2.2 0 (by have := h.2.1.1; omega)).1
 have h3 := okL_get h.ok 0
 have h4 := pc_pos ⟨(p.getD 0 0).toNat, by omega⟩ (by simp only; omega)
 unfold mxL
 simp only at h4
 omega
theorem mxL_le (p : List Int) : 0 <= mxL p /\ mxL p <= 6 := mxK_le p p.length (Nat.le_refl _)
theorem brd_len (p : List Int) (m : Int) : (brd p m).length <= 64 := Nat.le_trans (brdK_len _ _ _) (fcs_len p)
theorem brd_ok (p : List Int) (m : Int) : okR (brd p m) := brdK_ok (fcs_ok p) m _
theorem rk_le (p : List Int) (m : Int) : rk (brd p m) <= 64 := Nat.le_trans (rkI_le _ _) (brd_len p m)
theorem rk_nil : rk [] = 0 := rfl
theorem loop67 (n : Int) (p : List Int) (h : cxOk n p) (R : Exit -> St -> Prop) : LoopOK X67 L67_0 ⟨chks 1 [0, 3, 4, 5] (fm67 n p), (ex67 n p).map (·.2)⟩ R := by
 refine loop_famsX [0, 3, 4, 5] (fm67 n p) (ex67 n p) 250 ⟨fun _ _ => ?_, fun (k : Nat) hk => ?_, trivial⟩
 · have hc := cnts_length p
   obtain ⟨m1, m2⟩ := mxL_le p
   have m3 := mxL_pos h
   have hb := cnts_bdd p 1
   have hB1 : brd p 1 ≠ [] := brd_some h.ok (m := 1) (by decide) (by omega)
   have h1 := rk_le p 1
   have h2 := rk_le p 2
   have l1 := brd_len p 1
   have l2 := brd_len p 2
   by_cases hd : mxL p = 1
   · refine ⟨X67e, XD1_ok _ _, rfl, rfl, rfl, rfl, ?_⟩
     have hN := brd_none h.ok (m := 2) (by omega)
     refine of_eq (q := (fun (g : Int) => (fun (f : List Bool) => (fun (e : Int) => (fun (d : List Int) => (fun (c : Prop) => (fun (b : Int) => (fun (a : Prop) => c /\ c /\ c /\ c /\ (e < (d.length : Int) -> c /\ c /\ ((brdOk (e, n, p, f) /\ (c /\ e = e /\ c) /\ a /\ c) /\ c /\ c) /\ ((((brd p e).length < 1000000 /\ ¬brd p e = []) /\ okR (brd p e)) /\ c) /\ c /\ c /\ inR .i64 g /\ ((brdNo (g, n, p, f) /\ (c /\ g = g /\ c) /\ a /\ c) /\ c /\ c) /\ ((c /\ (c /\ c) /\ c) /\ c) /\ c /\ c /\ c /\ c /\ c /\ idxPre e d.length /\ c /\ c /\ inR .i64 b /\ c /\ inR .i64 (b - 0) /\ c /\ sumPre (0 : Nat) [b - 0].length (nat_lit 8) /\ c /\ c /\ inR .i64 g /\ c /\ ((∃ (y : Unit), (c /\ (10 : Nat) < 10) /\ (c /\ False /\ d = d /\ g = e /\ c) /\ a /\ c) ∨ ∃ (y : Nat), (((1 : Nat) <= y /\ (y : Int) <= mxL p) /\ (mxL p).toNat - y < 10) /\ (c /\ c /\ d = d /\ g = (y : Int) + e /\ c) /\ a /\ [b - 0] = hoK p y /\ c)) /\ (¬e < (d.length : Int) -> ∃ (y : Unit), c /\ (False /\ c) /\ a /\ False)) (n = n /\ p = p /\ f = f /\ c)) (d.getD (1 : Nat) (0 : Int) - (↑(rk (brd p e)) : Int))) (True)) (cnts p)) ((1 : Int))) (mk (isF p))) ((2 : Int))) (by kernel_rfl) ?_
     simp only [zz]
     refine ⟨fun _ => ⟨⟨⟨h, rfl⟩, hB1⟩, ⟨⟨by omega, hB1⟩, brd_ok _ _⟩, by simp only [inR]; omega, ⟨⟨h, rfl⟩, hN⟩, by unfold idxPre; omega, by simp only [inR]; omega, by simp only [inR]; omega, by unfold sumPre; simp, by simp only [inR]; omega, 1, ⟨⟨by omega, by omega⟩, by omega⟩, by omega, ?_⟩, fun _ => by omega⟩
     simp only [hoK, List.nil_append]
     rw [show brd p (((0 : Nat) : Int) + 1 + 1) = [] from hN, rk_nil]
     rfl
   · refine ⟨X67, XD1_ok _ _, rfl, rfl, rfl, rfl, ?_⟩
     have hB2 : brd p 2 ≠ [] := brd_some h.ok (m := 2) (by decide) (by omega)
     refine of_eq (q := (fun (g : List Bool) => (fun (f : Int) => (fun (e : Int) => (fun (d : List Int) => (fun (h : Int) => (fun (c : Prop) => (fun (b : Int) => (fun (a : Prop) => c /\ c /\ c /\ c /\ (e < (d.length : Int) -> c /\ c /\ ((brdOk (e, n, p, g) /\ (c /\ e = e /\ c) /\ a /\ c) /\ c /\ c) /\ ((((brd p e).length < 1000000 /\ ¬brd p e = []) /\ okR (brd p e)) /\ c) /\ c /\ c /\ inR .i64 f /\ ((brdOk (f, n, p, g) /\ (c /\ f = f /\ c) /\ a /\ c) /\ c /\ c) /\ ((((brd p f).length < 1000000 /\ ¬brd p f = []) /\ okR (brd p f)) /\ c) /\ c /\ c /\ c /\ c /\ c /\ idxPre e d.length /\ c /\ c /\ inR .i64 h /\ c /\ inR .i64 b /\ c /\ sumPre (0 : Nat) [b].length (nat_lit 8) /\ c /\ c /\ inR .i64 f /\ c /\ ((∃ (y : Unit), (c /\ (10 : Nat) < 10) /\ (c /\ False /\ d = d /\ f = e /\ c) /\ a /\ c) ∨ ∃ (y : Nat), (((1 : Nat) <= y /\ (y : Int) <= mxL p) /\ (mxL p).toNat - y < 10) /\ (c /\ c /\ d = d /\ f = (y : Int) + e /\ c) /\ a /\ [b] = hoK p y /\ c)) /\ (¬e < (d.length : Int) -> ∃ (y : Unit), c /\ (False /\ c) /\ a /\ False)) (n = n /\ p = p /\ g = g /\ c)) (h - (↑(rk (brd p f)) : Int))) (True)) (d.getD (1 : Nat) (0 : Int) - (↑(rk (brd p e)) : Int))) (cnts p)) ((1 : Int))) ((2 : Int))) (mk (isF p))) (by kernel_rfl) ?_
     simp only [zz]
     exact ⟨fun _ => ⟨⟨⟨h, rfl⟩, hB1⟩, ⟨⟨by omega, hB1⟩, brd_ok _ _⟩, by simp only [inR]; omega, ⟨⟨h, rfl⟩, hB2⟩, ⟨⟨by omega, hB2⟩, brd_ok _ _⟩, by unfold idxPre; omega, by simp only [inR]; omega, by simp only [inR]; omega, by unfold sumPre; simp, by simp only [inR]; omega, 1, ⟨⟨by omega, by omega⟩, by omega⟩, by omega, rfl⟩, fun _ => by omega⟩
 · have hc := cnts_length p
   obtain ⟨m1, m2⟩ := mxL_le p
   obtain ⟨k1, k2⟩ := hk
   have hb := cnts_bdd p (k + 1)
   have h1 := rk_le p ((k : Int) + 1)
   have h2 := rk_le p ((k : Int) + 1 + 1)
   have l1 := brd_len p ((k : Int) + 1)
   have l2 := brd_len p ((k : Int) + 1 + 1)
   have hh := hoK_length p k
   have hE : ¬ (k : Int) + 1 < (cnts p).length -> hoK p k = hoL p := fun h3 => by unfold hoL; rw [show (mxL p).toNat = k by omega]
   by_cases hd : mxL p <= (k : Int) + 1
   · refine ⟨X67e, XD1_ok _ _, rfl, rfl, rfl, rfl, ?_⟩
     have hN := brd_none h.ok (m := (k : Int) + 1 + 1) (by omega)
     refine of_eq (q := (fun (g : List Bool) => (fun (e : List Int) => (fun (d : Prop) => (fun (b : Prop) => (fun (a : Int) => (fun (f : Int) => (fun (c : Int) => d /\ d /\ d /\ d /\ (a < (e.length : Int) -> d /\ d /\ ((brdOk (a, n, p, g) /\ (d /\ a = a /\ d) /\ b /\ d) /\ d /\ d) /\ ((((brd p a).length < 1000000 /\ ¬brd p a = []) /\ okR (brd p a)) /\ d) /\ d /\ d /\ inR .i64 f /\ ((brdNo (f, n, p, g) /\ (d /\ f = f /\ d) /\ b /\ d) /\ d /\ d) /\ ((d /\ (d /\ d) /\ d) /\ d) /\ d /\ d /\ d /\ d /\ d /\ idxPre a e.length /\ d /\ d /\ inR .i64 c /\ d /\ inR .i64 (c - 0) /\ d /\ sumPre (hoK p k).length [c - 0].length (nat_lit 8) /\ d /\ d /\ inR .i64 f /\ d /\ ((∃ (y : Unit), (d /\ (10 : Nat) < (mxL p).toNat - k) /\ (d /\ False /\ e = e /\ f = 1 /\ d) /\ b /\ d) ∨ ∃ (y : Nat), (((1 : Nat) <= y /\ (y : Int) <= mxL p) /\ (mxL p).toNat - y < (mxL p).toNat - k) /\ (d /\ d /\ e = e /\ f = (y : Int) + 1 /\ d) /\ b /\ hoK p k ++ [c - 0] = hoK p y /\ d)) /\ (¬a < (e.length : Int) -> ∃ (y : Unit), d /\ (d /\ d) /\ b /\ hoK p k = hoL p /\ d)) (e.getD (k + 1) (0 : Int) - (↑(rk (brd p a)) : Int))) (a + 1)) ((k : Int) + 1)) (n = n /\ p = p /\ g = g /\ d)) (True)) (cnts p)) (mk (isF p))) (by kernel_rfl) ?_
     simp only [zz]
     refine ⟨fun h3 => ?_, hE⟩
     have hB1 : brd p ((k : Int) + 1) ≠ [] := brd_some h.ok (m := k + 1) (by omega) (by omega)
     refine ⟨⟨⟨h, rfl⟩, hB1⟩, ⟨⟨by omega, hB1⟩, brd_ok _ _⟩, by simp only [inR]; omega, ⟨⟨h, rfl⟩, hN⟩, by unfold idxPre; omega, by simp only [inR]; omega, by simp only [inR]; omega, by unfold sumPre; simp; omega, by simp only [inR]; omega, k + 1, ⟨⟨by omega, by omega⟩, by omega⟩, by omega, ?_⟩
     rw [hoK, hN, rk_nil]; try rfl
   · refine ⟨X67, XD1_ok _ _, rfl, rfl, rfl, rfl, ?_⟩
     refine of_eq (q := (fun (h : List Bool) => (fun (f : List Int) => (fun (d : Prop) => (fun (b : Prop) => (fun (a : Int) => (fun (g : Int) => (fun (e : Int) => (fun (c : Int) => d /\ d /\ d /\ d /\ (a < (f.length : Int) -> d /\ d /\ ((brdOk (a, n, p, h) /\ (d /\ a = a /\ d) /\ b /\ d) /\ d /\ d) /\ ((((brd p a).length < 1000000 /\ ¬brd p a = []) /\ okR (brd p a)) /\ d) /\ d /\ d /\ inR .i64 e /\ ((brdOk (e, n, p, h) /\ (d /\ e = e /\ d) /\ b /\ d) /\ d /\ d) /\ ((((brd p e).length < 1000000 /\ ¬brd p e = []) /\ okR (brd p e)) /\ d) /\ d /\ d /\ d /\ d /\ d /\ idxPre a f.length /\ d /\ d /\ inR .i64 g /\ d /\ inR .i64 c /\ d /\ sumPre (hoK p k).length [c].length (nat_lit 8) /\ d /\ d /\ inR .i64 e /\ d /\ ((∃ (y : Unit), (d /\ (10 : Nat) < (mxL p).toNat - k) /\ (d /\ False /\ f = f /\ e = 1 /\ d) /\ b /\ d) ∨ ∃ (y : Nat), (((1 : Nat) <= y /\ (y : Int) <= mxL p) /\ (mxL p).toNat - y < (mxL p).toNat - k) /\ (d /\ d /\ f = f /\ e = (y : Int) + 1 /\ d) /\ b /\ hoK p k ++ [c] = hoK p y /\ d)) /\ (¬a < (f.length : Int) -> ∃ (y : Unit), d /\ (d /\ d) /\ b /\ hoK p k = hoL p /\ d)) (g - (↑(rk (brd p e)) : Int))) (a + 1)) (f.getD (k + 1) (0 : Int) - (↑(rk (brd p a)) : Int))) ((k : Int) + 1)) (n = n /\ p = p /\ h = h /\ d)) (True)) (cnts p)) (mk (isF p))) (by kernel_rfl) ?_
     simp only [zz]
     refine ⟨fun h3 => ?_, hE⟩
     have hB1 : brd p ((k : Int) + 1) ≠ [] := brd_some h.ok (m := k + 1) (by omega) (by omega)
     have hB2 : brd p ((k : Int) + 1 + 1) ≠ [] := brd_some h.ok (m := k + 2) (by omega) (by omega)
     exact ⟨⟨⟨h, rfl⟩, hB1⟩, ⟨⟨by omega, hB1⟩, brd_ok _ _⟩, by simp only [inR]; omega, ⟨⟨h, rfl⟩, hB2⟩, ⟨⟨by omega, hB2⟩, brd_ok _ _⟩, by unfold idxPre; omega, by simp only [inR]; omega, by simp only [inR]; omega, by unfold sumPre; simp; omega, by simp only [inR]; omega, k + 1, ⟨⟨by omega, by omega⟩, by omega⟩, by omega, rfl⟩
theorem call67 (n : Int) (p : List Int) (h : cxOk n p) : GCall Try.prog gl 67 false [.ptr 0 0 []] [cxO n p] [.sl I64 (hoL p)] [cxO n p] := by
 refine gcall_of (X := (X67)) ((XD1_ok _ _)) (f := 67) (fn := Try.f67) (c := bodyOf Try.f67) (by kernel_rfl) (by kernel_rfl) (view := true) (rvs := [.tmp 2]) (by kernel_rfl) (H := (H67 n p)) 80 (by kernel_rfl) ?_
 have hL := loop67 n p h
 refine of_eq (q := (fun (b : Prop) => (fun (a : Prop) => b /\ b /\ b /\ ((okC (n, p, mk (isF p)) /\ (b /\ b) /\ a /\ b) /\ b /\ b) /\ b /\ b /\ LoopOK X67 L67_0 { J := chks (1 : Nat) [(0 : Nat), (3 : Nat), (4 : Nat), (5 : Nat)] (fm67 n p), exits := List.map (fun (x : List Nat × Ex) => x.snd) (ex67 n p) } (RetR X67 false true [ResultVar.tmp (2 : Tmp)] [AV.sl I64 (hoL p)] [cxO n p]) /\ ((∃ (y : Unit), b /\ (b /\ b /\ cnts p = cnts p /\ (1 : Int) = 1 /\ b) /\ a /\ b) ∨ ∃ (y : Nat), ((1 : Nat) <= y /\ (y : Int) <= mxL p) /\ (b /\ False /\ cnts p = cnts p /\ (1 : Int) = (y : Int) + 1 /\ b) /\ a /\ False) /\ (∀ (y : Unit), b -> b /\ b /\ b /\ (hoL p = hoL p /\ b) /\ a /\ b) /\ b) (n = n /\ p = p /\ mk (isF p) = mk (isF p) /\ b)) (True)) (by kernel_rfl) ?_
 simp only [zz]
 exact ⟨⟨h, rfl⟩, hL _, fun _ _ => trivial⟩
def e67 : Entry Try.prog gl := entryW 67 ⟨Try.f67, by kernel_rfl, by kernel_rfl, by kernel_rfl⟩ true getCx okC false (fun _ => [.ptr 0 0 []]) (fun x => [cxQ x]) (fun x => [.sl I64 (hoL x.2.1)]) (fun x => [cxQ x]) (fun x h => by rw [cxQ_ok h]; exact call67 _ _ h.h)
theorem call30 (n : Int) (p : List Int) (h : cxOk n p) : GCall Try.prog gl 30 false [.int .i64 n, .sl I64 p] [] [.sl I64 (hoL p), .int .i64 0] [] := by
 refine gcall_of (X := X [e53, e67]) (X_ok [e53, e67]) (f := 30) (fn := Try.f30) (c := bodyOf Try.f30) (by kernel_rfl) (by kernel_rfl) (view := false) (rvs := [.tmp 4, .tmp 5]) (by kernel_rfl) (H := fun _ => none) 80 (by kernel_rfl) ?_
 refine of_eq (q := (fun (b : Prop) => (fun (a : Prop) => a /\ a /\ a /\ a /\ (CxP n p /\ a) /\ a /\ a /\ a /\ a /\ a /\ a /\ a /\ (¬b -> a /\ a /\ a /\ a /\ (([] : List Int) = hoL p /\ b /\ a) /\ a) /\ (¬¬b -> a /\ ((okC (n, p, mk (isF p)) /\ (a /\ a) /\ (n = n /\ p = p /\ mk (isF p) = mk (isF p) /\ a) /\ a) /\ a /\ a) /\ a /\ a /\ a /\ (hoL p = hoL p /\ b /\ a) /\ a)) (True)) ((0 : Int) = 0)) (by kernel_rfl) ?_
 simp only [zz]
 exact ⟨⟨h⟩, fun h => absurd trivial h, fun _ => ⟨h, rfl⟩⟩
end Go.Am.Sh

/- Shells: the dual, moment complexes. -/
namespace Go.Am.Sh
open Go Go.Am Go.Proofs
def grL (g : Nat -> Bool) : List Int := trueN (grtB g) 64
def fewE (l : List Int) : Int := if l = [] ∨ l.getD 0 0 = 0 then 4 else if 10 < l.length then 8 else 0
def fewR (l : List Int) : List Int := if fewE l = 0 then l else []
theorem call61 (xs : List Bool) (h : xs.length = 64) : GCall Try.prog gl 61 false [.ar .bool 64 xs] [] [.sl I64 (fewR (grL (gB xs))), .int .i64 (fewE (grL (gB xs)))] [] := by
 refine gcall_of (X := X [e70]) (X_ok [e70]) (f := 61) (fn := Try.f61) (c := bodyOf Try.f61) (by kernel_rfl) (by kernel_rfl) (view := false) (rvs := [.tmp 2, .tmp 3]) (by kernel_rfl) (H := fun _ => none) 80 (by kernel_rfl) ?_
 refine of_eq (q := (fun (f : Int) => (fun (c : Prop) => (fun (b : List Int) => (fun (d : Prop) => (fun (a : List Int) => (fun (e : Int) => c /\ c /\ c /\ c /\ (xs.length = 64 /\ c) /\ c /\ c /\ c /\ c /\ c /\ (e = f -> c /\ c /\ d) /\ (¬e = f -> c /\ idxPre f a.length /\ c /\ c /\ c /\ c /\ (a.getD (0 : Nat) f = f -> d) /\ (¬a.getD (0 : Nat) f = f -> c /\ c /\ c /\ c /\ ((10 : Int) < e -> c /\ c /\ c /\ (([] : List Int) = fewR b /\ (8 : Int) = fewE b /\ c) /\ c) /\ (¬(10 : Int) < e -> c /\ c /\ c /\ c /\ (a = fewR b /\ f = fewE b /\ c) /\ c)))) ((a.length : Int))) (trueN (grtB (gB xs)) (64 : Nat))) (c /\ c /\ c /\ (([] : List Int) = fewR b /\ (4 : Int) = fewE b /\ c) /\ c)) (grL (gB xs))) (True)) ((0 : Int))) (by kernel_rfl) ?_
 simp only [zz]
 have e : trueN (grtB (gB xs)) 64 = grL (gB xs) := rfl
 rw [e]
 generalize grL (gB xs) = l
 have hne : ¬ (l.length : Int) = 0 -> ¬ l = [] := fun h e => h (by rw [e]; rfl)
 refine ⟨h, fun h1 => ?_, fun h1 => ⟨by unfold idxPre; omega, fun h2 => ?_, fun h2 => ⟨fun h3 => ?_, fun h3 => ?_⟩⟩⟩
 · have h4 : l = [] := List.length_eq_zero_iff.mp (by omega)
   simp [fewR, fewE, h4]
 · have h4 := hne h1
   have h5 : fewE l = 4 := by unfold fewE; rw [if_pos (.inr h2)]
   rw [fewR, h5]; simp
 · have h5 : fewE l = 8 := by unfold fewE; rw [if_neg (by intro h; rcases h with h | h; exact hne h1 h; exact h2 h), if_pos (by omega)]
   rw [fewR, h5]; simp
 · have h5 : fewE l = 0 := by unfold fewE; rw [if_neg (by intro h; rcases h with h | h; exact hne h1 h; exact h2 h), if_neg (by omega)]
   rw [fewR, h5]; simp
def e61 : Entry Try.prog gl := entry1 61 ⟨Try.f61, by kernel_rfl, by kernel_rfl, by kernel_rfl⟩ FA (fun xs => (xs : List Bool).length = 64) false (fun xs => [.sl I64 (fewR (grL (gB xs))), .int .i64 (fewE (grL (gB xs)))]) (fun _ => []) (call61)
theorem grtB_ext {f g : Nat -> Bool} (h : ∀ x, x < 64 -> f x = g x) {x : Nat} (hx : x < 64) : grtB f x = grtB g x := by
 unfold grtB
 rw [h x hx]
 congr 1
 rw [Bool.eq_iff_iff, List.all_eq_true, List.all_eq_true]
 constructor
 · intro hh v hv
   have := hh v hv
   rwa [h _ (or_lt ⟨x, hx⟩ ⟨v, by simpa using hv⟩)] at this
 · intro hh v hv
   have := hh v hv
   rwa [h _ (or_lt ⟨x, hx⟩ ⟨v, by simpa using hv⟩)]
theorem grL_ext {f g : Nat -> Bool} (h : ∀ x, x < 64 -> f x = g x) : grL f = grL g := trueN_ext fun x hx => grtB_ext h hx
theorem grL_mk (g : Nat -> Bool) : grL (gB (mk g)) = grL g := grL_ext fun x hx => mk_getD hx
theorem mns_lt : ∀ a b : Fin 64, mns a.val b.val < 64 := by decide +kernel
def duaG (n : Int) (p : List Int) (x : Nat) : Bool := decide (x < 2 ^ n.toNat) && !isF p (mns (2 ^ n.toNat - 1) x)
def duaK (n : Int) (p : List Int) (k : Nat) : List Bool := mk fun x => decide (x < k) && !isF p (mns (2 ^ n.toNat - 1) x)
theorem duaK_step {n : Int} {p : List Int} {k : Nat} : (duaK n p k).set k (!isF p (mns (2 ^ n.toNat - 1) k)) = duaK n p (k + 1) := by
 unfold duaK
 rw [mk_set]
 refine mk_ext fun x _ => ?_
 by_cases e : x = k
 · subst e; rw [if_pos rfl]; simp
 · rw [if_neg e]
   have : (x < k) ↔ (x < k + 1) := by omega
   simp only [this]
noncomputable def L36_0 : Code := lp (bodyOf Try.f36) 0
def st36 (n : Int) (p : List Int) (k : Nat) : St := ⟨dd 6 ++ .ptr 0 0 [] :: .dead :: .ptr 1 0 [] :: .int .i64 ((2 ^ n.toNat - 1 : Nat) : Int) :: dd 15 ++ .int .i64 ((2 ^ n.toNat : Nat) : Int) :: .int .i64 k :: dd 18, [cxO n p, .bx (.ar .bool 64 (duaK n p k))]⟩
def inv36 (n : Int) (k : Nat) : Prop := k <= 2 ^ n.toNat
def ex36 (n : Int) (p : List Int) : List (List Nat × Ex) := [([8], ⟨0, Unit, fun _ => True, fun _ => ⟨dd 8 ++ .ptr 0 0 [] :: dd 36, [.bx (.ar .bool 64 (mk (duaG n p)))]⟩⟩)]
noncomputable def H36 (n : Int) (p : List Int) : Nat -> Option Hint := fun _ => some ⟨chk 0 [6, 8, 9, 25, 26] (inv36 n) (st36 n p), (ex36 n p).map (·.2)⟩
theorem loop36 (n : Int) (p : List Int) (h : cxOk n p) (R : Exit -> St -> Prop) : LoopOK (X [e53, e61]) L36_0 ⟨chk 0 [6, 8, 9, 25, 26] (inv36 n) (st36 n p), (ex36 n p).map (·.2)⟩ R := by
 refine loop_ok (X_ok _) (H := fun _ _ => none) [6, 8, 9, 25, 26] (inv36 n) (st36 n p) (fun k => 2 ^ n.toNat - k) (ex36 n p) 100 fun (k : Nat) hk => ?_
 refine of_eq (q := (fun (e : Nat) => (fun (d : Int) => (fun (c : Prop) => (fun (b : Int) => (fun (a : Int) => c /\ (b < d -> c /\ c /\ c /\ c /\ c /\ c /\ c /\ c /\ c /\ idxPre (bNot .i64 a b) (64 : Nat) /\ c /\ c /\ idxPre b (64 : Nat) /\ c /\ inR .i64 (b + 1) /\ c /\ ∃ (y : Nat), (inv36 n y /\ e - y < e - k) /\ (c /\ c /\ a = a /\ d = d /\ b + 1 = (y : Int) /\ c) /\ (n = n /\ p = p /\ mk (isF p) = mk (isF p) /\ c) /\ ((duaK n p k).set k !(mk (isF p)).getD (bNot .i64 a b).toNat false) = duaK n p y /\ c) /\ (¬b < d -> ∃ (y : Unit), c /\ (c /\ c) /\ duaK n p k = mk (duaG n p) /\ c)) ((↑(e - 1) : Int))) ((k : Int))) (True)) ((2 : Int) ^ n.toNat)) ((2 : Nat) ^ n.toNat)) (by kernel_rfl) ?_
 simp only [zz]
 have hk : k <= 2 ^ n.toNat := hk
 obtain ⟨e1, e2, e3⟩ := numOk_pow h.1
 refine ⟨fun h3 => ?_, fun h3 => ?_⟩
 · have hk2 : k < 2 ^ n.toNat := by omega
   have hm := mns_lt ⟨2 ^ n.toNat - 1, by omega⟩ ⟨k, by omega⟩
   simp only at hm
   rw [bNot_nat (by omega) (by omega), Int.toNat_natCast, mk_getD hm]
   exact ⟨by unfold idxPre; omega, by unfold idxPre; omega, by simp only [inR]; omega, k + 1, ⟨by unfold inv36; omega, by omega⟩, by omega, duaK_step⟩
 · rw [show k = 2 ^ n.toNat by omega]; try rfl
theorem call36 (n : Int) (p : List Int) (h : cxOk n p) : GCall Try.prog gl 36 false [.int .i64 n, .sl I64 p] [] [.sl I64 (fewR (grL (duaG n p))), .int .i64 (fewE (grL (duaG n p)))] [] := by
 refine gcall_of (X := X [e53, e61]) (X_ok [e53, e61]) (f := 36) (fn := Try.f36) (c := bodyOf Try.f36) (by kernel_rfl) (by kernel_rfl) (view := false) (rvs := [.tmp 4, .tmp 5]) (by kernel_rfl) (H := (H36 n p)) 80 (by kernel_rfl) ?_
 have hL := loop36 n p h
 refine of_eq (q := (fun (e : Int) => (fun (d : Int) => (fun (c : Prop) => (fun (b : List Int) => (fun (a : Int) => c /\ c /\ c /\ c /\ (CxP n p /\ c) /\ c /\ c /\ c /\ c /\ c /\ c /\ c /\ (¬d = d -> c /\ c /\ c /\ c /\ (([] : List Int) = fewR b /\ d = fewE b /\ c) /\ c) /\ (¬¬d = d -> c /\ c /\ inR .u64 n /\ ((d <= n /\ n < bitsOf .i64) /\ (-9223372036854775808 : Int) <= a /\ a <= 9223372036854775807) /\ inR .i64 (a - e) /\ c /\ c /\ inR .i64 (a - e + e) /\ c /\ LoopOK (X [e53, e61]) L36_0 { J := chk (0 : Nat) [(6 : Nat), (8 : Nat), (9 : Nat), (25 : Nat), (26 : Nat)] (inv36 n) (st36 n p), exits := List.map (fun (x : List Nat × Ex) => x.snd) (ex36 n p) } (RetR (X [e53, e61]) false false [ResultVar.tmp (4 : Tmp), ResultVar.tmp (5 : Tmp)] [AV.sl I64 (fewR b), AV.int .i64 (fewE b)] []) /\ (∃ (y : Nat), inv36 n y /\ (c /\ c /\ a - e = (↑((2 : Nat) ^ n.toNat - 1) : Int) /\ a - e + e = 2 ^ n.toNat /\ d = (y : Int) /\ c) /\ (n = n /\ p = p /\ mk (isF p) = mk (isF p) /\ c) /\ [false, false, false, false, false, false, false, false, false, false, false, false, false, false, false, false, false, false, false, false, false, false, false, false, false, false, false, false, false, false, false, false, false, false, false, false, false, false, false, false, false, false, false, false, false, false, false, false, false, false, false, false, false, false, false, false, false, false, false, false, false, false, false, false] = duaK n p y /\ c) /\ (∀ (y : Unit), c -> c /\ ((mk (duaG n p)).length = 64 /\ c) /\ c /\ c /\ c /\ c /\ c /\ (fewR (grL (gB (mk (duaG n p)))) = fewR b /\ fewE (grL (gB (mk (duaG n p)))) = fewE b /\ c) /\ c) /\ c)) (e * 2 ^ n.toNat)) (grL (duaG n p))) (True)) ((0 : Int))) ((1 : Int))) (by kernel_rfl) ?_
 simp only [zz]
 obtain ⟨e1, e2, e3⟩ := numOk_pow h.1
 obtain ⟨n1, n2⟩ := h.1
 rw [Int.one_mul, <- e1]
 refine ⟨⟨h⟩, fun h => absurd trivial h, fun _ => ⟨by simp only [inR]; omega, by simp only [bitsOf]; omega, by simp only [inR]; omega, by simp only [inR]; omega, hL _, ⟨0, Nat.zero_le _, ⟨by omega, by omega, rfl⟩, ?_⟩, fun _ _ => ⟨mk_length _, by rw [grL_mk], by rw [grL_mk]⟩⟩⟩
 rfl
/-- The last corner that is not in the set, and how many are between; none: an odd number was. -/
def mst (s : Nat) : Nat -> Option (Int × Int)
 | 0 => some (-1, 0)
 | v + 1 => (mst s v).bind fun q => if s / 2 ^ v % 2 = 1 then some (q.1, q.2 + 1) else if 0 <= q.1 /\ q.2 % 2 = 1 then none else some (v, 0)
theorem mst_none {s v : Nat} (h : mst s v = none) : ∀ j, mst s (v + j) = none
 | 0 => h
 | j + 1 => by rw [show v + (j + 1) = v + j + 1 by omega, mst, mst_none h j]; try rfl
def lst (s v : Nat) : Int × Int := (mst s v).getD (0, 0)
theorem mst_some {s v : Nat} (h : (mst s v).isSome = true) : mst s v = some (lst s v) := by
 unfold lst
 cases hm : mst s v with
 | none => rw [hm] at h; cases h
 | some q => rfl
theorem mst_step {s v : Nat} (h : (mst s v).isSome = true) : mst s (v + 1) = if s / 2 ^ v % 2 = 1 then some ((lst s v).1, (lst s v).2 + 1) else if 0 <= (lst s v).1 /\ (lst s v).2 % 2 = 1 then none else some ((v : Int), 0) := by
 rw [mst, mst_some h]; try rfl
theorem mst_prev {s v : Nat} (h : (mst s (v + 1)).isSome = true) : (mst s v).isSome = true := by
 cases hm : mst s v with
 | none => rw [mst, hm] at h; cases h
 | some q => rfl
theorem lst_of {s v : Nat} {q : Int × Int} (h : mst s v = some q) : lst s v = q := by unfold lst; rw [h]; try rfl
theorem lst_le {s : Nat} : ∀ {v : Nat}, (mst s v).isSome = true -> 0 <= (lst s v).2 /\ (lst s v).2 <= v
 | 0, _ => by simp [lst, mst]
 | v + 1, h => by
   have h1 := mst_prev h
   have ih := lst_le h1
   have e := mst_step h1
   by_cases hb : s / 2 ^ v % 2 = 1
   · rw [if_pos hb] at e
     rw [lst_of e]; simp only; omega
   · rw [if_neg hb] at e
     by_cases hc : 0 <= (lst s v).1 /\ (lst s v).2 % 2 = 1
     · rw [if_pos hc] at e; rw [e] at h; cases h
     · rw [if_neg hc] at e
       rw [lst_of e]; simp only; omega
def momB (n d : Int) (s : Nat) : Bool := decide ((pc s : Int) = d) && (mst s n.toNat).isSome
def momL (n d : Int) : List Int := trueN (momB n d) (2 ^ n.toNat)
noncomputable def L24_0 : Code := lp (bodyOf Try.f24) 0
noncomputable def L24_2 : Code := lp (bodyOf Try.f24) 2
def momOk (n d : Int) : Prop := 2 <= d /\ d < n /\ n <= 6
theorem momPow {n d : Int} (h : momOk n d) : ((2 ^ n.toNat : Nat) : Int) = 2 ^ n.toNat /\ 2 <= 2 ^ n.toNat /\ 2 ^ n.toNat <= 64 := by
 obtain ⟨h1, h2, h3⟩ := h
 exact numOk_pow ⟨by omega, h3⟩
def inj24 (n : Int) (k v : Nat) : Prop := v <= n.toNat /\ (mst k v).isSome = true
def sz24 (n d : Int) (k : Nat) : St := ⟨.int .i64 n :: .int .i64 d :: dd 4 ++ nl :: dd 17 ++ .int .i64 ((2 ^ n.toNat : Nat) : Int) :: .int .i64 k :: dd 33, []⟩
def jz24 (n d : Int) (k v : Nat) : St := ⟨.int .i64 n :: .int .i64 d :: dd 4 ++ nl :: .int .i64 k :: .int .i64 (lst k v).1 :: .int .i64 (lst k v).2 :: dd 14 ++ .int .i64 ((2 ^ n.toNat : Nat) : Int) :: .int .i64 k :: dd 6 ++ .int .i64 n :: .int .i64 v :: dd 25, []⟩
def ejz24 (n d : Int) (k : Nat) : List (List Nat × Ex) := [([0, 1, 6, 7, 24, 25], ⟨2, Unit, fun _ => momB n d k = true, fun _ => ⟨.int .i64 n :: .int .i64 d :: dd 4 ++ nl :: .int .i64 k :: dd 16 ++ .int .i64 ((2 ^ n.toNat : Nat) : Int) :: .int .i64 k :: dd 33, []⟩⟩), ([0, 1, 6, 24, 25], ⟨1, Unit, fun _ => momB n d k = false, fun _ => sz24 n d k⟩)]
def hz24 (n d : Int) (k : Nat) : Hint := ⟨chk 0 [0, 1, 6, 7, 8, 9, 24, 25, 32, 33] (inj24 n k) (jz24 n d k), (ejz24 n d k).map (·.2)⟩
theorem loop24z (n d : Int) (k : Nat) (h : momOk n d) (hk : k < 2 ^ n.toNat) (hd : (pc k : Int) = d) (R : Exit -> St -> Prop) : LoopOK (X [e64]) L24_2 (hz24 n d k) R := by
 refine loop_ok (X_ok _) (H := fun _ _ => none) [0, 1, 6, 7, 8, 9, 24, 25, 32, 33] (inj24 n k) (jz24 n d k) (fun v => n.toNat - v) (ejz24 n d k) 100 fun (v : Nat) hv => ?_
 refine of_eq (q := (fun (o : Nat) => (fun (l : Int) => (fun (j : Int) => (fun (h : Int) => (fun (g : Int × Int) => (fun (f : Prop) => (fun (e : Int) => (fun (c : Int) => (fun (b : Int) => (fun (m : Prop) => (fun (i : Prop) => (fun (a : Prop) => f /\ (e < n -> f /\ f /\ f /\ f /\ inR .u64 e /\ (l <= e /\ e < bitsOf .i64) /\ f /\ f /\ (i -> f /\ inR .i64 (g.snd + h) /\ f /\ inR .i64 (e + h) /\ f /\ ∃ (y : Nat), (inj24 n k y /\ o - y < o - v) /\ (n = n /\ d = d /\ f /\ m /\ g.fst = (lst k y).fst /\ g.snd + h = (lst k y).snd /\ c = c /\ m /\ n = n /\ e + h = (y : Int) /\ f) /\ f) /\ (¬i -> f /\ f /\ f /\ (l <= g.fst -> f /\ ¬j = l /\ f /\ f /\ (g.snd.tmod j = h -> ∃ (y : Unit), momB n d k = false /\ (n = n /\ d = d /\ f /\ c = c /\ m /\ f) /\ f) /\ (¬g.snd.tmod j = h -> a)) /\ (¬l <= g.fst -> f /\ a))) /\ (¬e < n -> ∃ (y : Unit), momB n d k = true /\ (n = n /\ d = d /\ f /\ m /\ c = c /\ m /\ f) /\ f)) (f /\ f /\ f /\ inR .i64 (e + h) /\ f /\ ∃ (y : Nat), (inj24 n k y /\ o - y < o - v) /\ (n = n /\ d = d /\ f /\ m /\ e = (lst k y).fst /\ l = (lst k y).snd /\ c = c /\ m /\ n = n /\ e + h = (y : Int) /\ f) /\ f)) (bAnd .i64 (b / j ^ v) h = h)) (b = b)) ((k : Int))) (j ^ o)) ((v : Int))) (True)) (lst k v)) ((1 : Int))) ((2 : Int))) ((0 : Int))) (n.toNat)) (by kernel_rfl) ?_
 simp only [zz]
 obtain ⟨v1, v2⟩ := hv
 obtain ⟨e1, e2, e3⟩ := momPow h
 obtain ⟨m1, m2, m3⟩ := h
 have hst := mst_step v2
 have hle := lst_le v2
 refine ⟨fun h3 => ?_, fun h3 => by unfold momB; rw [show n.toNat = v by omega, v2]; simp [hd]⟩
 have hv6 : v < 6 := by omega
 have h2 : 2 ^ v < 64 := Nat.pow_lt_pow_right (a := 2) (by decide) hv6
 have e : (2 ^ v : Int) = ((2 ^ v : Nat) : Int) := by rw [Int.natCast_pow]; try rfl
 rw [e]
 generalize 2 ^ v = P at *
 have e1 : (k : Int) / (P : Int) = ((k / P : Nat) : Int) := by rw [Int.natCast_ediv]
 have h0 : k / P <= k := Nat.div_le_self _ _
 have e2 : bAnd .i64 ((k / P : Nat) : Int) 1 = ((k / P % 2 : Nat) : Int) := by
   have := bAnd_nat (a := k / P) (b := 1) (by omega) (by decide)
   rw [Nat.and_one_is_mod] at this
   exact this
 have et : (lst k v).2.tmod 2 = (lst k v).2 % 2 := Int.tmod_eq_emod_of_nonneg (by omega)
 rw [e1, e2, et]
 have hn : ∀ q : Int × Int, mst k (v + 1) = some q -> inR .i64 ((v : Int) + 1) /\ ∃ y : Nat, (inj24 n k y /\ n.toNat - y < n.toNat - v) /\ q.1 = (lst k y).1 /\ q.2 = (lst k y).2 /\ (v : Int) + 1 = (y : Int) := fun q hq => ⟨by simp only [inR]; omega, v + 1, ⟨⟨by omega, by rw [hq]; rfl⟩, by omega⟩, by rw [lst_of hq], by rw [lst_of hq], by omega⟩
 refine ⟨by simp only [inR]; omega, by simp only [bitsOf]; omega, fun hb => ⟨by simp only [inR]; omega, hn ((lst k v).1, (lst k v).2 + 1) ?_⟩, fun hb => ⟨fun hc => ⟨by decide, fun hc2 => ?_, fun hc2 => hn ((v : Int), 0) ?_⟩, fun hc => hn ((v : Int), 0) ?_⟩⟩
 · rw [if_pos (by omega)] at hst; exact hst
 · rw [if_neg (by omega), if_pos ⟨hc, hc2⟩] at hst
   unfold momB
   have := mst_none hst (n.toNat - (v + 1))
   rw [show v + 1 + (n.toNat - (v + 1)) = n.toNat by omega] at this
   rw [this]; simp
 · rw [if_neg (by omega), if_neg (by omega)] at hst; exact hst
 · rw [if_neg (by omega), if_neg (by omega)] at hst; exact hst
def st24 (n d : Int) (k : Nat) : St := ⟨.int .i64 n :: .int .i64 d :: dd 4 ++ .own 0 0 :: dd 17 ++ .int .i64 ((2 ^ n.toNat : Nat) : Int) :: .int .i64 k :: dd 33, [.sc 0 3 I64 (trueN (momB n d) k)]⟩
def jt24 (n d : Int) (k v : Nat) : St := ⟨.int .i64 n :: .int .i64 d :: dd 4 ++ .own 0 0 :: .int .i64 k :: .int .i64 (lst k v).1 :: .int .i64 (lst k v).2 :: dd 14 ++ .int .i64 ((2 ^ n.toNat : Nat) : Int) :: .int .i64 k :: dd 6 ++ .int .i64 n :: .int .i64 v :: dd 25, [.sc 0 3 I64 (trueN (momB n d) k)]⟩
def ejt24 (n d : Int) (k : Nat) : List (List Nat × Ex) := [([0, 1, 6, 7, 24, 25], ⟨2, Unit, fun _ => momB n d k = true, fun _ => ⟨.int .i64 n :: .int .i64 d :: dd 4 ++ .own 0 0 :: .int .i64 k :: dd 16 ++ .int .i64 ((2 ^ n.toNat : Nat) : Int) :: .int .i64 k :: dd 33, [.sc 0 3 I64 (trueN (momB n d) k)]⟩⟩), ([0, 1, 6, 24, 25], ⟨1, Unit, fun _ => momB n d k = false, fun _ => st24 n d k⟩)]
def ht24 (n d : Int) (k : Nat) : Hint := ⟨chk 0 [0, 1, 6, 7, 8, 9, 24, 25, 32, 33] (inj24 n k) (jt24 n d k), (ejt24 n d k).map (·.2)⟩
theorem loop24t (n d : Int) (k : Nat) (h : momOk n d) (hk : k < 2 ^ n.toNat) (hd : (pc k : Int) = d) (R : Exit -> St -> Prop) : LoopOK (X [e64]) L24_2 (ht24 n d k) R := by
 refine loop_ok (X_ok _) (H := fun _ _ => none) [0, 1, 6, 7, 8, 9, 24, 25, 32, 33] (inj24 n k) (jt24 n d k) (fun v => n.toNat - v) (ejt24 n d k) 100 fun (v : Nat) hv => ?_
 refine of_eq (q := (fun (p : Nat) => (fun (m : Int) => (fun (l : Int) => (fun (i : Prop) => (fun (h : Int) => (fun (g : Int × Int) => (fun (f : Int) => (fun (e : Int) => (fun (c : Int) => (fun (o : Prop) => (fun (j : Prop) => (fun (b : Prop) => (fun (a : Prop) => i /\ (f < n -> i /\ i /\ i /\ i /\ inR .u64 f /\ (m <= f /\ f < bitsOf .i64) /\ i /\ i /\ (j -> i /\ inR .i64 (g.snd + h) /\ i /\ inR .i64 (f + h) /\ i /\ ∃ (y : Nat), (inj24 n k y /\ p - y < p - v) /\ (n = n /\ d = d /\ i /\ o /\ g.fst = (lst k y).fst /\ g.snd + h = (lst k y).snd /\ e = e /\ o /\ n = n /\ f + h = (y : Int) /\ i) /\ b) /\ (¬j -> i /\ i /\ i /\ (m <= g.fst -> i /\ ¬l = m /\ i /\ i /\ (g.snd.tmod l = h -> ∃ (y : Unit), momB n d k = false /\ (n = n /\ d = d /\ i /\ e = e /\ o /\ i) /\ b) /\ (¬g.snd.tmod l = h -> a)) /\ (¬m <= g.fst -> i /\ a))) /\ (¬f < n -> ∃ (y : Unit), momB n d k = true /\ (n = n /\ d = d /\ i /\ o /\ e = e /\ o /\ i) /\ b)) (i /\ i /\ i /\ inR .i64 (f + h) /\ i /\ ∃ (y : Nat), (inj24 n k y /\ p - y < p - v) /\ (n = n /\ d = d /\ i /\ o /\ f = (lst k y).fst /\ m = (lst k y).snd /\ e = e /\ o /\ n = n /\ f + h = (y : Int) /\ i) /\ b)) (trueN (momB n d) k = trueN (momB n d) k /\ i)) (bAnd .i64 (c / l ^ v) h = h)) (c = c)) ((k : Int))) (l ^ p)) ((v : Int))) (lst k v)) ((1 : Int))) (True)) ((2 : Int))) ((0 : Int))) (n.toNat)) (by kernel_rfl) ?_
 simp only [zz]
 obtain ⟨v1, v2⟩ := hv
 obtain ⟨e1, e2, e3⟩ := momPow h
 obtain ⟨m1, m2, m3⟩ := h
 have hst := mst_step v2
 have hle := lst_le v2
 refine ⟨fun h3 => ?_, fun h3 => by unfold momB; rw [show n.toNat = v by omega, v2]; simp [hd]⟩
 have hv6 : v < 6 := by omega
 have h2 : 2 ^ v < 64 := Nat.pow_lt_pow_right (a := 2) (by decide) hv6
 have e : (2 ^ v : Int) = ((2 ^ v : Nat) : Int) := by rw [Int.natCast_pow]; try rfl
 rw [e]
 generalize 2 ^ v = P at *
 have e1 : (k : Int) / (P : Int) = ((k / P : Nat) : Int) := by rw [Int.natCast_ediv]
 have h0 : k / P <= k := Nat.div_le_self _ _
 have e2 : bAnd .i64 ((k / P : Nat) : Int) 1 = ((k / P % 2 : Nat) : Int) := by
   have := bAnd_nat (a := k / P) (b := 1) (by omega) (by decide)
   rw [Nat.and_one_is_mod] at this
   exact this
 have et : (lst k v).2.tmod 2 = (lst k v).2 % 2 := Int.tmod_eq_emod_of_nonneg (by omega)
 rw [e1, e2, et]
 have hn : ∀ q : Int × Int, mst k (v + 1) = some q -> inR .i64 ((v : Int) + 1) /\ ∃ y : Nat, (inj24 n k y /\ n.toNat - y < n.toNat - v) /\ q.1 = (lst k y).1 /\ q.2 = (lst k y).2 /\ (v : Int) + 1 = (y : Int) := fun q hq => ⟨by simp only [inR]; omega, v + 1, ⟨⟨by omega, by rw [hq]; rfl⟩, by omega⟩, by rw [lst_of hq], by rw [lst_of hq], by omega⟩
 refine ⟨by simp only [inR]; omega, by simp only [bitsOf]; omega, fun hb => ⟨by simp only [inR]; omega, hn ((lst k v).1, (lst k v).2 + 1) ?_⟩, fun hb => ⟨fun hc => ⟨by decide, fun hc2 => ?_, fun hc2 => hn ((v : Int), 0) ?_⟩, fun hc => hn ((v : Int), 0) ?_⟩⟩
 · rw [if_pos (by omega)] at hst; exact hst
 · rw [if_neg (by omega), if_pos ⟨hc, hc2⟩] at hst
   unfold momB
   have := mst_none hst (n.toNat - (v + 1))
   rw [show v + 1 + (n.toNat - (v + 1)) = n.toNat by omega] at this
   rw [this]; simp
 · rw [if_neg (by omega), if_neg (by omega)] at hst; exact hst
 · rw [if_neg (by omega), if_neg (by omega)] at hst; exact hst
noncomputable def fm24 (n d : Int) : List Fam := [⟨Nat, fun k => k <= 2 ^ n.toNat /\ trueN (momB n d) k = [], sz24 n d, fun k => 2 ^ n.toNat - k, fun k _ => some (hz24 n d k)⟩, ⟨Nat, fun k => k <= 2 ^ n.toNat, st24 n d, fun k => 2 ^ n.toNat - k, fun k _ => some (ht24 n d k)⟩]
def ex24 (n d : Int) : List (List Nat × Ex) := [([6], ⟨0, Unit, fun _ => momL n d = [], fun _ => ⟨dd 6 ++ nl :: dd 52, []⟩⟩), ([6], ⟨0, Unit, fun _ => True, fun _ => ⟨dd 6 ++ .own 0 0 :: dd 52, [.sc 0 3 I64 (momL n d)]⟩⟩)]
noncomputable def H24 (n d : Int) : Nat -> Option Hint := fun _ => some ⟨chks 0 [0, 1, 6, 24, 25] (fm24 n d), (ex24 n d).map (·.2)⟩
theorem loop24 (n d : Int) (h : momOk n d) (R : Exit -> St -> Prop) : LoopOK (X [e64]) L24_0 ⟨chks 0 [0, 1, 6, 24, 25] (fm24 n d), (ex24 n d).map (·.2)⟩ R := by
 refine loop_fams (X_ok _) [0, 1, 6, 24, 25] (fm24 n d) (ex24 n d) 150 ⟨fun (k : Nat) hk => ?_, fun (k : Nat) hk => ?_, trivial⟩
 · have hL := fun h1 h2 => loop24z n d k h h1 h2
   refine of_eq (q := (fun (f : Prop) => (fun (e : Int) => (fun (g : Int) => (fun (c : Nat) => (fun (b : Int) => (fun (a : Prop) => f /\ (e < b -> f /\ f /\ f /\ (((0 : Int) <= e /\ e < 64) /\ f) /\ f /\ f /\ (¬(↑(pc k) : Int) = d -> a) /\ (¬¬(↑(pc k) : Int) = d -> f /\ f /\ f /\ f /\ LoopOK (X [e64]) L24_2 (hz24 n d k) (bodyR (X [e64]).m0 (ex24 n d) R) /\ (∃ (y : Nat), inj24 n k y /\ (n = n /\ d = d /\ f /\ e = e /\ (-1 : Int) = (lst k y).fst /\ (0 : Int) = (lst k y).snd /\ b = b /\ e = e /\ n = n /\ (0 : Int) = (y : Int) /\ f) /\ f) /\ (∀ (y : Unit), momB n d k = true -> f /\ f /\ f /\ sumPre (0 : Nat) [e].length (nat_lit 8) /\ f /\ inR .i64 g /\ f /\ ((∃ (y : Nat), ((y <= c /\ trueN (momB n d) y = []) /\ c - y < c - k) /\ (n = n /\ d = d /\ False /\ b = b /\ g = (y : Int) /\ f) /\ f) ∨ ∃ (y : Nat), (y <= c /\ c - y < c - k) /\ (n = n /\ d = d /\ f /\ b = b /\ g = (y : Int) /\ f) /\ [e] = trueN (momB n d) y /\ f)) /\ (∀ (y : Unit), momB n d k = false -> a) /\ f)) /\ (¬e < b -> (∃ (y : Unit), momL n d = [] /\ (f /\ f) /\ f) ∨ ∃ (y : Unit), f /\ (False /\ f) /\ False)) (inR .i64 g /\ f /\ ((∃ (y : Nat), ((y <= c /\ trueN (momB n d) y = []) /\ c - y < c - k) /\ (n = n /\ d = d /\ f /\ b = b /\ g = (y : Int) /\ f) /\ f) ∨ ∃ (y : Nat), (y <= c /\ c - y < c - k) /\ (n = n /\ d = d /\ False /\ b = b /\ g = (y : Int) /\ f) /\ False))) ((2 : Int) ^ n.toNat)) ((2 : Nat) ^ n.toNat)) (e + 1)) ((k : Int))) (True)) (by kernel_rfl) ?_
   simp only [zz]
   obtain ⟨e1, e2, e3⟩ := momPow h
   obtain ⟨k1, k2⟩ := hk
   have hf : k < 2 ^ n.toNat -> momB n d k = false -> inR .i64 ((k : Int) + 1) /\ ∃ y : Nat, ((y <= 2 ^ n.toNat /\ trueN (momB n d) y = []) /\ 2 ^ n.toNat - y < 2 ^ n.toNat - k) /\ (k : Int) + 1 = (y : Int) := fun h3 hb => ⟨by simp only [inR]; omega, k + 1, ⟨⟨by omega, by rw [trueN, hb, k2]; rfl⟩, by omega⟩, by omega⟩
   have hz : ∃ y : Nat, inj24 n k y /\ (-1 : Int) = (lst k y).1 /\ (0 : Int) = (lst k y).2 /\ (0 : Int) = (y : Int) := ⟨0, ⟨Nat.zero_le _, rfl⟩, rfl, rfl, rfl⟩
   refine ⟨fun h3 => ⟨by omega, fun h4 => hf (by omega) ?_, fun h4 => ⟨hL (by omega) (Classical.not_not.mp h4) _, hz, fun _ h5 => ⟨by unfold sumPre; simp, by simp only [inR]; omega, k + 1, by omega, by omega, ?_⟩, fun _ h5 => hf (by omega) h5⟩⟩, fun h3 => ?_⟩
   · unfold momB; simp [h4]
   · rw [trueN, if_pos h5, k2]; try rfl
   · unfold momL; rw [show 2 ^ n.toNat = k by omega, k2]
 · have hL := fun h1 h2 => loop24t n d k h h1 h2
   refine of_eq (q := (fun (h : Prop) => (fun (g : Nat) => (fun (f : Int) => (fun (i : Int) => (fun (e : Int) => (fun (c : List Int) => (fun (b : Prop) => (fun (a : Prop) => h /\ (f < e -> h /\ h /\ h /\ (((0 : Int) <= f /\ f < 64) /\ h) /\ h /\ h /\ (¬(↑(pc k) : Int) = d -> a) /\ (¬¬(↑(pc k) : Int) = d -> h /\ h /\ h /\ h /\ LoopOK (X [e64]) L24_2 (ht24 n d k) (bodyR (X [e64]).m0 (ex24 n d) R) /\ (∃ (y : Nat), inj24 n k y /\ (n = n /\ d = d /\ h /\ f = f /\ (-1 : Int) = (lst k y).fst /\ (0 : Int) = (lst k y).snd /\ e = e /\ f = f /\ n = n /\ (0 : Int) = (y : Int) /\ h) /\ c = c /\ h) /\ (∀ (y : Unit), momB n d k = true -> h /\ h /\ h /\ sumPre c.length [f].length (nat_lit 8) /\ h /\ inR .i64 i /\ h /\ (b ∨ ∃ (y : Nat), (y <= g /\ g - y < g - k) /\ (n = n /\ d = d /\ h /\ e = e /\ i = (y : Int) /\ h) /\ c ++ [f] = trueN (momB n d) y /\ h)) /\ (∀ (y : Unit), momB n d k = false -> a) /\ h)) /\ (¬f < e -> (∃ (y : Unit), momL n d = [] /\ (False /\ h) /\ h) ∨ ∃ (y : Unit), h /\ (h /\ h) /\ c = momL n d /\ h)) (inR .i64 i /\ h /\ (b ∨ ∃ (y : Nat), (y <= g /\ g - y < g - k) /\ (n = n /\ d = d /\ h /\ e = e /\ i = (y : Int) /\ h) /\ c = trueN (momB n d) y /\ h))) (∃ (y : Nat), ((y <= g /\ trueN (momB n d) y = []) /\ g - y < g - k) /\ (n = n /\ d = d /\ False /\ e = e /\ i = (y : Int) /\ h) /\ h)) (trueN (momB n d) k)) ((2 : Int) ^ n.toNat)) (f + 1)) ((k : Int))) ((2 : Nat) ^ n.toNat)) (True)) (by kernel_rfl) ?_
   simp only [zz]
   obtain ⟨e1, e2, e3⟩ := momPow h
   have hk : k <= 2 ^ n.toNat := hk
   have hl := trueN_len (momB n d) k
   have hf : k < 2 ^ n.toNat -> momB n d k = false -> inR .i64 ((k : Int) + 1) /\ ∃ y : Nat, (y <= 2 ^ n.toNat /\ 2 ^ n.toNat - y < 2 ^ n.toNat - k) /\ (k : Int) + 1 = (y : Int) /\ trueN (momB n d) k = trueN (momB n d) y := fun h3 hb => ⟨by simp only [inR]; omega, k + 1, by omega, by omega, by rw [trueN, hb]; rfl⟩
   have hz : ∃ y : Nat, inj24 n k y /\ (-1 : Int) = (lst k y).1 /\ (0 : Int) = (lst k y).2 /\ (0 : Int) = (y : Int) := ⟨0, ⟨Nat.zero_le _, rfl⟩, rfl, rfl, rfl⟩
   refine ⟨fun h3 => ⟨by omega, fun h4 => hf (by omega) ?_, fun h4 => ⟨hL (by omega) (Classical.not_not.mp h4) _, hz, fun _ h5 => ⟨by unfold sumPre; simp; omega, by simp only [inR]; omega, k + 1, by omega, by omega, ?_⟩, fun _ h5 => hf (by omega) h5⟩⟩, fun h3 => ?_⟩
   · unfold momB; simp [h4]
   · rw [trueN, if_pos h5]; try rfl
   · unfold momL; rw [show 2 ^ n.toNat = k by omega]
theorem call24 (n d : Int) (h : momOk n d) : GCall Try.prog gl 24 true [.int .i64 n, .int .i64 d] [] [.sl I64 (momL n d), .int .i64 0] [] := by
 refine gcall_of (X := (X [e64])) ((X_ok _)) (f := 24) (fn := Try.f24) (c := bodyOf Try.f24) (by kernel_rfl) (by kernel_rfl) (view := true) (rvs := [.tmp 4, .tmp 5]) (by kernel_rfl) (H := (H24 n d)) 80 (by kernel_rfl) ?_
 have hL := loop24 n d h
 refine of_eq (q := (fun (f : Int) => (fun (e : List Int) => (fun (c : Int) => (fun (g : Int) => (fun (b : Prop) => (fun (a : Prop) => b /\ b /\ b /\ b /\ b /\ (d < 2 -> b /\ b /\ b /\ a) /\ (¬d < 2 -> b /\ b /\ b /\ b /\ b /\ (n <= d -> b /\ a) /\ (¬n <= d -> b /\ b /\ b /\ ((6 : Int) < n -> a) /\ (¬(6 : Int) < n -> b /\ b /\ inR .u64 n /\ ((f <= n /\ n < bitsOf .i64) /\ (-9223372036854775808 : Int) <= g /\ g <= 9223372036854775807) /\ b /\ LoopOK (X [e64]) L24_0 { J := chks (0 : Nat) [(0 : Nat), (1 : Nat), (6 : Nat), (24 : Nat), (25 : Nat)] (fm24 n d), exits := List.map (fun (x : List Nat × Ex) => x.snd) (ex24 n d) } (RetR (X [e64]) true true [ResultVar.tmp (4 : Tmp), ResultVar.tmp (5 : Tmp)] [AV.sl I64 e, AV.int .i64 f] []) /\ ((∃ (y : Nat), (y <= 2 ^ n.toNat /\ trueN (momB n d) y = []) /\ (n = n /\ d = d /\ b /\ g = c /\ f = (y : Int) /\ b) /\ b) ∨ ∃ (y : Nat), y <= 2 ^ n.toNat /\ (n = n /\ d = d /\ False /\ g = c /\ f = (y : Int) /\ b) /\ False) /\ (∀ (y : Unit), e = [] -> b /\ b /\ b /\ b /\ (([] : List Int) = e /\ f = f /\ b) /\ b) /\ (∀ (y : Unit), b -> b /\ b /\ b /\ b /\ (e = e /\ f = f /\ b) /\ b) /\ b)))) (b /\ b /\ b /\ (([] : List Int) = e /\ (1 : Int) = f /\ b) /\ b)) (True)) ((1 : Int) * c)) ((2 : Int) ^ n.toNat)) (momL n d)) ((0 : Int))) (by kernel_rfl) ?_
 simp only [zz]
 obtain ⟨e1, e2, e3⟩ := momPow h
 obtain ⟨m1, m2, m3⟩ := h
 rw [Int.one_mul, <- e1]
 exact ⟨fun _ => by omega, fun _ => ⟨fun _ => by omega, fun _ => ⟨fun _ => by omega, fun _ => ⟨by simp only [inR]; omega, ⟨⟨by omega, by simp only [bitsOf]; omega⟩, by omega, by omega⟩, hL _, ⟨0, ⟨Nat.zero_le _, rfl⟩, rfl, rfl⟩, fun _ h => h.symm, fun _ h => h⟩⟩⟩⟩
end Go.Am.Sh

/- Shells: pure, follows. -/
namespace Go.Am.Sh
open Go Go.Am Go.Proofs
noncomputable def Xm (l : EL) (m : Nat) (dr : Nat -> Option Nat) : Cy := mkX Try.prog tt gl l m dr
theorem Xm_ok (l : EL) (m : Nat) (dr : Nat -> Option Nat) : (Xm l m dr).Ok := mkX_ok tt_ok l m dr
def obP (n : Int) (p : List Int) : List Ob := [.bx (.ptr 1 0 []), cxO n p]
def obQ (x : Cx3) : List Ob := [.bx (.ptr 1 0 []), cxQ x]
theorem obQ_ok {x : Cx3} (h : okC x) : obQ x = obP x.1 x.2.1 := by unfold obQ obP; rw [cxQ_ok h]
def difB (p : List Int) (s : Int) : Bool := decide (¬ ((pc s.toNat : Nat) : Int) = mxL p)
theorem call81 (n : Int) (p : List Int) (s : Int) (h : cxOk n p) (hs : 0 <= s /\ s < 64) : GCall Try.prog gl 81 false [.int .i64 s, .ptr 0 0 []] (obP n p) [.bool (difB p s)] (obP n p) := by
 refine gcall_of (X := (Xm [e64, e82] 2 (drOf [(1, 4006)]))) ((Xm_ok _ _ _)) (f := 81) (fn := Try.f81) (c := bodyOf Try.f81) (by kernel_rfl) (by kernel_rfl) (view := false) (rvs := [.tmp 3]) (by kernel_rfl) (H := fun _ => none) 80 (by kernel_rfl) ?_
 refine of_eq (q := (fun (b : Prop) => (fun (a : List Bool) => (fun (c : Prop) => b /\ b /\ true = true /\ ((0 : Int) <= s /\ s < 64) /\ true = true /\ b /\ true = true /\ ((okC (n, p, a) /\ (b /\ b) /\ c) /\ b /\ b) /\ b /\ b /\ b /\ b /\ b /\ b /\ ((decide ¬(↑(pc s.toNat) : Int) = mxL p) = difB p s /\ b) /\ b /\ c) ((n = n /\ p = p /\ a = a /\ b) /\ b)) (mk (isF p))) (True)) (by kernel_rfl) ?_
 simp only [zz]
 exact ⟨hs, ⟨h, rfl⟩, by unfold difB; simp⟩
def get81 (xs : List AV) (obs : List Ob) : Option (Int × Cx3) :=
 match xs with
 | [.int .i64 s, _] => (unCx (obs.getD 1 .gone)).map fun x => (s, x)
 | _ => none
structure ok81 (x : Int × Cx3) : Prop where
 h : okC x.2
 s : 0 <= x.1 /\ x.1 < 64
def e81 : Entry Try.prog gl := entryW 81 ⟨Try.f81, by kernel_rfl, by kernel_rfl, by kernel_rfl⟩ true get81 ok81 false (fun x => [.int .i64 x.1, .ptr 0 0 []]) (fun x => obQ x.2) (fun x => [.bool (difB x.2.2.1 x.1)]) (fun x => obQ x.2) (fun x h => by rw [obQ_ok h.h]; exact call81 _ _ _ h.h.h h.s)
def clo81 : AV := .clo 81 [] [.ptr 0 0 []]
def difX (p : List Int) : Int := if ∃ s ∈ p, difB p s = true then ((p.findIdx (difB p) : Nat) : Int) else -1
noncomputable def L83_0 : Code := lp (bodyOf Try.f83) 0
def inv83 (p : List Int) (k : Nat) : Prop := k <= p.length /\ ∀ q ∈ p.take k, difB p q = false
def st83 (n : Int) (p : List Int) (k : Nat) : St := ⟨.sl I64 p :: clo81 :: dd 5 ++ .int .i64 p.length :: .int .i64 k :: dd 10, obP n p⟩
def ex83 (n : Int) (p : List Int) : List (List Nat × Ex) := [([], ⟨0, Unit, fun _ => ∀ q ∈ p, difB p q = false, fun _ => ⟨dd 19, obP n p⟩⟩)]
noncomputable def H83 (n : Int) (p : List Int) : Nat -> Option Hint := fun _ => some ⟨chk 2 [0, 1, 7, 8] (inv83 p) (st83 n p), (ex83 n p).map (·.2)⟩
noncomputable abbrev X83 : Cy := Xm [e81] 2 (fun _ => none)
theorem find_at {f : Int -> Bool} {l : List Int} {k : Nat} (hk : k < l.length) (h : ∀ x ∈ l.take k, f x = false) (hx : f (l.getD k 0) = true) : l.findIdx f = k := by
 induction l generalizing k with
 | nil => simp at hk
 | cons a l ih =>
   cases k with
   | zero => simp at hx; simp [List.findIdx_cons, hx]
   | succ k =>
     have ha : f a = false := h a (by simp)
     rw [List.findIdx_cons, ha]
     simp only [cond_false]
     rw [ih (by simpa using hk) (fun x hx => h x (by simp [hx])) (by simpa using hx)]
theorem loop83 (n : Int) (p : List Int) (hp : cxOk n p) : LoopOK X83 L83_0 ⟨chk 2 [0, 1, 7, 8] (inv83 p) (st83 n p), (ex83 n p).map (·.2)⟩ (RetR X83 false false [.tmp 4] [.int .i64 (difX p)] (obP n p)) := by
 refine loop_ok (Xm_ok _ _ _) (H := fun _ _ => none) [0, 1, 7, 8] (inv83 p) (st83 n p) (fun k => p.length - k) (ex83 n p) 90 fun (k : Nat) hk => ?_
 refine of_eq (q := (fun (e : Int) => (fun (d : Int) => (fun (c : Prop) => (fun (b : Int) => (fun (a : Prop) => c /\ (d < e -> c /\ c /\ c /\ c /\ c /\ idxPre d p.length /\ c /\ ((ok81 (b, n, p, mk (isF p)) /\ (b = b /\ c /\ c) /\ a) /\ c /\ c /\ c) /\ (difB p b = true -> c /\ c /\ c /\ (d = difX p /\ c) /\ a) /\ (difB p b = false -> inR .i64 (d + 1) /\ c /\ ∃ (y : Nat), (inv83 p y /\ p.length - y < p.length - k) /\ (p = p /\ (c /\ c /\ c) /\ e = e /\ d + 1 = (y : Int) /\ c) /\ a)) /\ (¬d < e -> ∃ (y : Unit), (∀ (q : Int), q ∈ p -> difB p q = false) /\ c /\ a)) (c /\ (n = n /\ p = p /\ mk (isF p) = mk (isF p) /\ c) /\ c)) (p.getD k (0 : Int))) (True)) ((k : Int))) ((p.length : Int))) (by kernel_rfl) ?_
 simp only [zz]
 obtain ⟨h1, h2⟩ := hk
 refine ⟨fun hk => ?_, fun hk => ?_⟩
 · have hk : k < p.length := by omega
   refine ⟨idx_nat hk, ⟨⟨hp, rfl⟩, okL_get hp.ok k⟩, fun hx => ?_, fun hx => ⟨by have := hp.2.1.2; simp only [inR]; omega, k + 1, ⟨⟨by omega, (all_take (d := 0) hk).mpr ⟨h2, hx⟩⟩, by omega⟩, by omega⟩⟩
   unfold difX
   rw [if_pos ⟨_, mem_getD hk, hx⟩, find_at hk h2 hx]
 · rwa [List.take_of_length_le (by omega)] at h2
theorem call83 (n : Int) (p : List Int) (hp : cxOk n p) : GCall Try.prog gl 83 false [.sl I64 p, clo81] (obP n p) [.int .i64 (difX p)] (obP n p) := by
 refine gcall_of (X := X83) ((Xm_ok _ _ _)) (f := 83) (fn := Try.f83) (c := bodyOf Try.f83) (by kernel_rfl) (by kernel_rfl) (view := false) (rvs := [.tmp 4]) (by kernel_rfl) (H := (H83 n p)) 80 (by kernel_rfl) ?_
 have hL := loop83 n p hp
 refine of_eq (q := (fun (b : Prop) => (fun (a : Prop) => b /\ b /\ b /\ b /\ LoopOK X83 L83_0 { J := chk (2 : Nat) [(0 : Nat), (1 : Nat), (7 : Nat), (8 : Nat)] (inv83 p) (st83 n p), exits := List.map (fun (x : List Nat × Ex) => x.snd) (ex83 n p) } (RetR X83 false false [ResultVar.tmp (4 : Tmp)] [AV.int .i64 (difX p)] (obP n p)) /\ (∃ (y : Nat), inv83 p y /\ (p = p /\ (b /\ b /\ b) /\ (p.length : Int) = (p.length : Int) /\ (0 : Int) = (y : Int) /\ b) /\ a) /\ (∀ (y : Unit), (∀ (q : Int), q ∈ p -> difB p q = false) -> b /\ b /\ ((-1 : Int) = difX p /\ b) /\ a) /\ b) (b /\ (n = n /\ p = p /\ mk (isF p) = mk (isF p) /\ b) /\ b)) (True)) (by kernel_rfl) ?_
 simp only [zz]
 refine ⟨hL, ⟨0, ⟨by omega, by simp⟩, rfl⟩, fun _ h => ?_⟩
 unfold difX; rw [if_neg]
 rintro ⟨q, h1, h2⟩
 rw [h q h1] at h2; cases h2
def get83 (xs : List AV) (obs : List Ob) : Option (List Int × Cx3) :=
 match xs with
 | [.sl e l, _] => (match castL e I64 l with
   | some l => (unCx (obs.getD 1 .gone)).map fun x => (l, x)
   | none => none)
 | _ => none
structure ok83 (x : List Int × Cx3) : Prop where
 h : okC x.2
 s : x.1 = x.2.2.1
def e83 : Entry Try.prog gl := entryW 83 ⟨Try.f83, by kernel_rfl, by kernel_rfl, by kernel_rfl⟩ true get83 ok83 false (fun x => [.sl I64 x.1, clo81]) (fun x => obQ x.2) (fun x => [.int .i64 (difX x.2.2.1)]) (fun x => obQ x.2) (fun x h => by rw [obQ_ok h.h, h.s]; exact call83 _ _ h.h.h)
def pure (p : List Int) : Bool := p.all fun s => decide (((pc s.toNat : Nat) : Int) = mxL p)
theorem pure_difX {p : List Int} : 0 <= difX p ↔ ¬ pure p = true := by
 unfold difX pure
 rw [List.all_eq_true]
 constructor
 · intro h h2
   rw [if_neg] at h
   · omega
   rintro ⟨s, h3, h4⟩
   have := h2 s h3
   unfold difB at h4
   simp at this h4
   exact h4 this
 · intro h
   rw [if_pos]
   · omega
   refine Classical.byContradiction fun h2 => h fun s hs => ?_
   have : ¬ difB p s = true := fun h3 => h2 ⟨s, hs, h3⟩
   unfold difB at this
   simpa using this
theorem call59 (n : Int) (p : List Int) (hp : cxOk n p) : GCall Try.prog gl 59 false [.sl I64 p, clo81] (obP n p) [.bool (!pure p)] (obP n p) := by
 refine gcall_of (X := (Xm [e83] 2 (fun _ => none))) ((Xm_ok _ _ _)) (f := 59) (fn := Try.f59) (c := bodyOf Try.f59) (by kernel_rfl) (by kernel_rfl) (view := false) (rvs := [.tmp 4]) (by kernel_rfl) (H := fun _ => none) 80 (by kernel_rfl) ?_
 refine of_eq (q := (fun (b : Prop) => (fun (a : Prop) => b /\ b /\ b /\ ((ok83 (p, n, p, mk (isF p)) /\ (p = p /\ (b /\ b /\ b) /\ b) /\ a) /\ b /\ b /\ b) /\ b /\ b /\ b /\ (decide ((0 : Int) <= difX p) = !pure p /\ b) /\ a) (b /\ (n = n /\ p = p /\ mk (isF p) = mk (isF p) /\ b) /\ b)) (True)) (by kernel_rfl) ?_
 simp only [zz]
 refine ⟨⟨⟨hp, rfl⟩, rfl⟩, ?_⟩
 have := pure_difX (p := p)
 cases h : pure p <;> simp [h] at this |- <;> omega
def e59 : Entry Try.prog gl := entryW 59 ⟨Try.f59, by kernel_rfl, by kernel_rfl, by kernel_rfl⟩ true get83 ok83 false (fun x => [.sl I64 x.1, clo81]) (fun x => obQ x.2) (fun x => [.bool (!pure x.2.2.1)]) (fun x => obQ x.2) (fun x h => by rw [obQ_ok h.h, h.s]; exact call59 _ _ h.h.h)
theorem call54 (n : Int) (p : List Int) (hp : cxOk n p) : GCall Try.prog gl 54 false [.ptr 0 0 []] [cxO n p] [.bool (pure p)] [cxO n p] := by
 refine gcall_of (X := (X1 [e59])) ((X1_ok _)) (f := 54) (fn := Try.f54) (c := bodyOf Try.f54) (by kernel_rfl) (by kernel_rfl) (view := false) (rvs := [.tmp 2]) (by kernel_rfl) (H := fun _ => none) 80 (by kernel_rfl) ?_
 refine of_eq (q := (fun (b : Prop) => (fun (a : List Bool) => (fun (c : Prop) => b /\ b /\ b /\ b /\ b /\ b /\ b /\ ((ok83 (p, n, p, a) /\ (p = p /\ (b /\ b /\ b) /\ b) /\ b /\ c) /\ b /\ b /\ b) /\ b /\ b /\ b /\ ((!!pure p) = pure p /\ b) /\ c) ((n = n /\ p = p /\ a = a /\ b) /\ b)) (mk (isF p))) (True)) (by kernel_rfl) ?_
 simp only [zz]
 exact ⟨⟨⟨hp, rfl⟩, rfl⟩, by simp⟩
def e54 : Entry Try.prog gl := entryW 54 ⟨Try.f54, by kernel_rfl, by kernel_rfl, by kernel_rfl⟩ true getCx okC false (fun _ => [.ptr 0 0 []]) (fun x => [cxQ x]) (fun x => [.bool (pure x.2.1)]) (fun x => [cxQ x]) (fun x h => by rw [cxQ_ok h]; exact call54 _ _ h.h)
def lowK (p : List Int) (D s : Nat) : Nat -> Nat
 | 0 => 0
 | k + 1 => if D / 2 ^ k % 2 = 1 /\ pc (mns s (p.getD k 0).toNat) = 1 then lowK p D s k ||| mns s (p.getD k 0).toNat else lowK p D s k
def low (p : List Int) (D i : Nat) : Nat := lowK p D (p.getD i 0).toNat p.length
def flwN (p : List Int) (D i k : Nat) : Prop := ∀ j, j < k -> D / 2 ^ j % 2 = 1 -> mns (low p D i) (p.getD j 0).toNat ≠ 0
instance (p D i k) : Decidable (flwN p D i k) := by unfold flwN; infer_instance
def flw (p : List Int) (D i : Nat) : Bool := decide (flwN p D i p.length)
theorem bit_shr {D k : Nat} (hD : D < 1024) : bAnd .i64 ((D : Int) / 2 ^ k) 1 = ((D / 2 ^ k % 2 : Nat) : Int) := by
 have e : (2 ^ k : Int) = ((2 ^ k : Nat) : Int) := by rw [Int.natCast_pow]; try rfl
 rw [e]
 generalize 2 ^ k = P
 have e1 : (D : Int) / (P : Int) = ((D / P : Nat) : Int) := by rw [Int.natCast_ediv]
 have h0 : D / P <= D := Nat.div_le_self _ _
 rw [e1]
 have := bAnd_nat (a := D / P) (b := 1) (by omega) (by decide)
 rw [Nat.and_one_is_mod] at this
 exact this
theorem lowK_lt {n : Int} {p : List Int} (hp : cxOk n p) {D s : Nat} (hs : s < 64) : ∀ k, lowK p D s k < 64
 | 0 => by show 0 < 64; decide
 | k + 1 => by
   have ih := lowK_lt hp hs (D := D) k
   have h1 := okL_get hp.ok k
   have h2 := mns_lt ⟨s, hs⟩ ⟨(p.getD k 0).toNat, by omega⟩
   rw [lowK]; split
   · exact Nat.or_lt_two_pow (n := 6) ih h2
   · exact ih
noncomputable def L56_0 : Code := lp (bodyOf Try.f56) 0
noncomputable def L56_2 : Code := lp (bodyOf Try.f56) 2
def sa56 (n : Int) (p : List Int) (D i k : Nat) : St := ⟨.ptr 0 0 [] :: .int .i64 D :: dd 5 ++ .int .i64 (p.getD i 0) :: .int .i64 (lowK p D (p.getD i 0).toNat k) :: dd 15 ++ .sl I64 p :: .int .i64 p.length :: .int .i64 k :: dd 45, [cxO n p]⟩
def ea56 (n : Int) (p : List Int) (D i : Nat) : List (List Nat × Ex) := [([0, 1, 8], ⟨0, Unit, fun _ => True, fun _ => ⟨.ptr 0 0 [] :: .int .i64 D :: dd 6 ++ .int .i64 (low p D i) :: dd 63, [cxO n p]⟩⟩)]
def ha56 (n : Int) (p : List Int) (D i : Nat) : Hint := ⟨chk 1 [0, 1, 7, 8, 24, 25, 26] (fun k => k <= p.length) (sa56 n p D i), (ea56 n p D i).map (·.2)⟩
def sb56 (n : Int) (p : List Int) (D i k : Nat) : St := ⟨.dead :: .int .i64 D :: dd 6 ++ .int .i64 (low p D i) :: dd 43 ++ .sl I64 p :: .int .i64 p.length :: .int .i64 k :: dd 17, [cxO n p]⟩
def eb56 (n : Int) (p : List Int) (D i : Nat) : List (List Nat × Ex) := [([], ⟨2, Unit, fun _ => flw p D i = true, fun _ => ⟨dd 72, [cxO n p]⟩⟩)]
def hb56 (n : Int) (p : List Int) (D i : Nat) : Hint := ⟨chk 1 [1, 8, 52, 53, 54] (fun k => k <= p.length /\ flwN p D i k) (sb56 n p D i), (eb56 n p D i).map (·.2)⟩
noncomputable def H56 (n : Int) (p : List Int) (D i : Nat) (b : Nat) : Option Hint := some (if Nat.beq b 0 then ha56 n p D i else hb56 n p D i)
theorem loop56a (n : Int) (p : List Int) (D i : Nat) (hp : cxOk n p) (hi : i < p.length) (hD : D < 1024) (R : Exit -> St -> Prop) : LoopOK (X1 [e64]) L56_0 (ha56 n p D i) R := by
 refine loop_ok (X1_ok _) (H := fun _ _ => none) [0, 1, 7, 8, 24, 25, 26] (fun k => k <= p.length) (sa56 n p D i) (fun k => p.length - k) (ea56 n p D i) 100 fun (k : Nat) hk => ?_
 refine of_eq (q := (fun (o : Nat) => (fun (l : Int) => (fun (h : Int) => (fun (m : Prop) => (fun (g : Int) => (fun (f : Prop) => (fun (e : Int) => (fun (d : Int) => (fun (j : Int) => (fun (c : Prop) => (fun (b : Int) => (fun (a : Prop) => f /\ (e < g -> f /\ idxPre e p.length /\ f /\ f /\ f /\ f /\ f /\ f /\ f /\ f /\ f /\ inR .u64 e /\ ((0 : Int) <= e /\ e < bitsOf .i64) /\ f /\ f /\ f /\ (m -> f /\ (((0 : Int) <= b /\ b < 64) /\ f) /\ f /\ f /\ ((↑(pc b.toNat) : Int) = l -> f /\ f /\ f /\ f /\ inR .i64 (e + l) /\ f /\ ∃ (y : Nat), (y <= o /\ o - y < o - k) /\ (f /\ h = h /\ d = d /\ bOr .i64 j b = (↑(lowK p D d.toNat y) : Int) /\ p = p /\ g = g /\ e + l = (y : Int) /\ f) /\ c) /\ (¬(↑(pc b.toNat) : Int) = l -> a)) /\ (¬m -> f /\ a)) /\ (¬e < g -> ∃ (y : Unit), f /\ (f /\ h = h /\ j = (↑(low p D i) : Int) /\ f) /\ c)) (inR .i64 (e + l) /\ f /\ ∃ (y : Nat), (y <= o /\ o - y < o - k) /\ (f /\ h = h /\ d = d /\ j = (↑(lowK p D d.toNat y) : Int) /\ p = p /\ g = g /\ e + l = (y : Int) /\ f) /\ c)) (bNot .i64 d (p.getD k (0 : Int)))) ((n = n /\ p = p /\ mk (isF p) = mk (isF p) /\ f) /\ f)) ((↑(lowK p D d.toNat k) : Int))) (p.getD i (0 : Int))) ((k : Int))) (True)) ((o : Int))) (bAnd .i64 (h / (2 : Int) ^ k) l = l)) ((D : Int))) ((1 : Int))) (p.length)) (by kernel_rfl) ?_
 simp only [zz]
 have hk : k <= p.length := hk
 have hl := hp.2.1.2
 obtain ⟨s1, s2⟩ := okL_get hp.ok i
 obtain ⟨q1, q2⟩ := okL_get hp.ok k
 refine ⟨fun h => ?_, fun h => by rw [show k = p.length by omega]; rfl⟩
 have hlt := lowK_lt hp (D := D) (s := (p.getD i 0).toNat) (by omega) k
 have hst : lowK p D (p.getD i 0).toNat (k + 1) = _ := rfl
 have hm := mns_lt ⟨(p.getD i 0).toNat, by omega⟩ ⟨(p.getD k 0).toNat, by omega⟩
 simp only at hm
 have e1 : bNot .i64 (p.getD i 0) (p.getD k 0) = ((mns (p.getD i 0).toNat (p.getD k 0).toNat : Nat) : Int) := by
   rw [<- bNot_nat (by omega) (by omega), Int.toNat_of_nonneg s1, Int.toNat_of_nonneg q1]
 rw [bit_shr hD, e1, Int.toNat_natCast, bOr_nat (by omega) (by omega)]
 refine ⟨idx_nat (by omega), by simp only [inR]; omega, ⟨by omega, by simp only [bitsOf]; omega⟩, fun hb => ⟨by omega, fun hc => ⟨by simp only [inR]; omega, k + 1, by omega, ?_, by omega⟩, fun hc => ⟨by simp only [inR]; omega, k + 1, by omega, ?_, by omega⟩⟩, fun hb => ⟨by simp only [inR]; omega, k + 1, by omega, ?_, by omega⟩⟩
 · rw [lowK, if_pos ⟨by omega, by omega⟩]
 · rw [lowK, if_neg (by omega)]
 · rw [lowK, if_neg (by omega)]
theorem loop56b (n : Int) (p : List Int) (D i : Nat) (hp : cxOk n p) (hD : D < 1024) : LoopOK (X1 [e64]) L56_2 (hb56 n p D i) (RetR (X1 [e64]) false false [.tmp 6] [.bool (flw p D i)] [cxO n p]) := by
 refine loop_ok (X1_ok _) (H := fun _ _ => none) [1, 8, 52, 53, 54] (fun k => k <= p.length /\ flwN p D i k) (sb56 n p D i) (fun k => p.length - k) (eb56 n p D i) 100 fun (k : Nat) hk => ?_
 refine of_eq (q := (fun (h : Int) => (fun (f : Prop) => (fun (e : Prop) => (fun (d : Int) => (fun (c : Int) => (fun (g : Prop) => (fun (b : Prop) => (fun (a : Prop) => f /\ (d < h -> f /\ idxPre d p.length /\ f /\ f /\ f /\ f /\ f /\ inR .u64 d /\ ((0 : Int) <= d /\ d < bitsOf .i64) /\ f /\ f /\ f /\ (e -> f /\ f /\ f /\ f /\ f /\ (g -> f /\ f /\ (false = flw p D i /\ f) /\ b) /\ (¬g -> a)) /\ (¬e -> f /\ a)) /\ (¬d < h -> ∃ (y : Unit), flw p D i = true /\ f /\ b)) (inR .i64 (d + 1) /\ f /\ ∃ (y : Nat), ((y <= p.length /\ flwN p D i y) /\ p.length - y < p.length - k) /\ ((D : Int) = (D : Int) /\ c = c /\ p = p /\ h = h /\ d + 1 = (y : Int) /\ f) /\ b)) ((n = n /\ p = p /\ mk (isF p) = mk (isF p) /\ f) /\ f)) (bNot .i64 c (p.getD k (0 : Int)) = 0)) ((↑(low p D i) : Int))) ((k : Int))) (bAnd .i64 ((D : Int) / (2 : Int) ^ k) (1 : Int) = 1)) (True)) ((p.length : Int))) (by kernel_rfl) ?_
 simp only [zz]
 obtain ⟨hk, hf⟩ := hk
 have hl := hp.2.1.2
 obtain ⟨q1, q2⟩ := okL_get hp.ok k
 refine ⟨fun h => ?_, fun h => by unfold flw; rw [show p.length = k by omega]; simpa using hf⟩
 have hlt : low p D i < 64 := lowK_lt hp (by have := okL_get hp.ok i; omega) _
 have e1 : bNot .i64 ((low p D i : Nat) : Int) (p.getD k 0) = ((mns (low p D i) (p.getD k 0).toNat : Nat) : Int) := by
   rw [<- bNot_nat (by omega) (by omega), Int.toNat_of_nonneg q1]
 have hn : (D / 2 ^ k % 2 = 1 -> mns (low p D i) (p.getD k 0).toNat ≠ 0) -> inR .i64 ((k : Int) + 1) /\ ∃ y : Nat, ((y <= p.length /\ flwN p D i y) /\ p.length - y < p.length - k) /\ (k : Int) + 1 = (y : Int) := fun hc => ⟨by simp only [inR]; omega, k + 1, ⟨⟨by omega, fun j hj hb => by
   rcases Nat.lt_or_ge j k with h1 | h1
   · exact hf j h1 hb
   · have : j = k := by omega
     subst this; exact hc hb⟩, by omega⟩, by omega⟩
 rw [bit_shr hD, e1]
 refine ⟨idx_nat (by omega), by simp only [inR]; omega, ⟨by omega, by simp only [bitsOf]; omega⟩, fun hb => ⟨fun hc => ?_, fun hc => hn fun _ => by omega⟩, fun hb => hn fun hc => absurd (by omega) hb⟩
 unfold flw
 refine (decide_eq_false fun hx => ?_).symm
 exact hx k (by omega) (by omega) (by omega)
theorem call56 (n : Int) (p : List Int) (D i : Nat) (hp : cxOk n p) (hi : i < p.length) (hD : D < 1024) : GCall Try.prog gl 56 false [.ptr 0 0 [], .int .i64 D, .int .i64 i] [cxO n p] [.bool (flw p D i)] [cxO n p] := by
 refine gcall_of (X := (X1 [e64])) ((X1_ok _)) (f := 56) (fn := Try.f56) (c := bodyOf Try.f56) (by kernel_rfl) (by kernel_rfl) (view := false) (rvs := [.tmp 6]) (by kernel_rfl) (H := (H56 n p D i)) 80 (by kernel_rfl) ?_
 have hL := fun R => loop56a n p D i hp hi hD R
 have hM := loop56b n p D i hp hD
 refine of_eq (q := (fun (f : Int) => (fun (e : Prop) => (fun (d : Bool) => (fun (c : Cy) => (fun (b : Prop) => (fun (a : Prop) => b /\ b /\ b /\ b /\ b /\ b /\ idxPre (i : Int) p.length /\ b /\ b /\ b /\ b /\ b /\ b /\ b /\ b /\ b /\ LoopOK c L56_0 (ha56 n p D i) (RetR c false false [ResultVar.tmp (6 : Tmp)] [AV.bool d] [cxO n p]) /\ (∃ (y : Nat), y <= p.length /\ (b /\ (D : Int) = (D : Int) /\ p.getD i f = p.getD i f /\ f = (↑(lowK p D (p.getD i f).toNat y) : Int) /\ p = p /\ e /\ f = (y : Int) /\ b) /\ a) /\ (∀ (y : Unit), b -> b /\ b /\ b /\ b /\ b /\ b /\ LoopOK c L56_2 (hb56 n p D i) (RetR c false false [ResultVar.tmp (6 : Tmp)] [AV.bool d] [cxO n p]) /\ (∃ (y : Nat), (y <= p.length /\ flwN p D i y) /\ ((D : Int) = (D : Int) /\ (↑(low p D i) : Int) = (↑(low p D i) : Int) /\ p = p /\ e /\ f = (y : Int) /\ b) /\ a) /\ (∀ (y : Unit), d = true -> b /\ b /\ (true = d /\ b) /\ a) /\ b) /\ b) ((n = n /\ p = p /\ mk (isF p) = mk (isF p) /\ b) /\ b)) (True)) (X1 [e64])) (flw p D i)) ((p.length : Int) = (p.length : Int))) ((0 : Int))) (by kernel_rfl) ?_
 simp only [zz]
 exact ⟨idx_nat hi, hL _, ⟨0, Nat.zero_le _, rfl, rfl⟩, fun _ _ => ⟨hM, ⟨0, ⟨Nat.zero_le _, fun j hj => absurd hj (Nat.not_lt_zero j)⟩, rfl⟩, fun _ h => h.symm⟩⟩
def get56 (xs : List AV) (obs : List Ob) : Option (Int × Int × Cx3) :=
 match xs with
 | [_, .int .i64 d, .int .i64 i] => (unCx (obs.getD 0 .gone)).map fun x => (d, i, x)
 | _ => none
structure ok56 (x : Int × Int × Cx3) : Prop where
 h : okC x.2.2
 D : 0 <= x.1 /\ x.1 < 1024
 i : 0 <= x.2.1 /\ x.2.1 < x.2.2.2.1.length
def e56 : Entry Try.prog gl := entryW 56 ⟨Try.f56, by kernel_rfl, by kernel_rfl, by kernel_rfl⟩ true get56 ok56 false (fun x => [.ptr 0 0 [], .int .i64 x.1, .int .i64 x.2.1]) (fun x => [cxQ x.2.2]) (fun x => [.bool (flw x.2.2.2.1 x.1.toNat x.2.1.toNat)]) (fun x => [cxQ x.2.2]) (fun x h => by
 have := call56 _ _ x.1.toNat x.2.1.toNat h.h.h (by have := h.i; omega) (by have := h.D; omega)
 rw [Int.toNat_of_nonneg h.D.1, Int.toNat_of_nonneg h.i.1] at this
 rw [cxQ_ok h.h]; exact this)
end Go.Am.Sh

/- Shells: a shelling is searched. -/
namespace Go.Am.Sh
open Go Go.Am Go.Proofs
noncomputable def Xb (l : EL) (m0 : Nat) (bs : List Nat) (dr : Nat -> Option Nat) : Cy := { mkX Try.prog tt gl l m0 dr with bs := bs }
theorem Xb_ok (l : EL) (m0 : Nat) (bs : List Nat) (dr : Nat -> Option Nat) : (Xb l m0 bs dr).Ok := (mkX_ok tt_ok l m0 dr).bump bs
abbrev Mm := List (Int × Bool)
abbrev Res := Bool × List Int × Mm
def mg (m : Mm) (d : Int) : Bool := (mGet I64 m d).getD false
def mp (m : Mm) (d : Int) : Mm := mPut I64 m d true
/-- The first rounds, until one comes to an end. -/
def lpK (p : List Int) (f : Nat -> List Int -> Mm -> Res) (D : Nat) (l : List Int) (m : Mm) : Nat -> Res
 | 0 => (false, l, m)
 | k + 1 => if (lpK p f D l m k).1 = true then lpK p f D l m k else if D / 2 ^ k % 2 = 1 ∨ flw p D k = false then lpK p f D l m k else
     if (f (D ||| 2 ^ k) (l ++ [(k : Int)]) (lpK p f D l m k).2.2).1 = true then f (D ||| 2 ^ k) (l ++ [(k : Int)]) (lpK p f D l m k).2.2
     else (false, l, (f (D ||| 2 ^ k) (l ++ [(k : Int)]) (lpK p f D l m k).2.2).2.2)
/-- The search; as many levels as pieces are left. -/
def gr (p : List Int) : Nat -> Nat -> List Int -> Mm -> Res
 | 0, _, l, m => (true, l, m)
 | n + 1, D, l, m => if mg m D = true then (false, l, m) else if (lpK p (gr p n) D l m p.length).1 = true then lpK p (gr p n) D l m p.length else (false, l, mp (lpK p (gr p n) D l m p.length).2.2 D)
theorem gr_list {p : List Int} {n D : Nat} {l : List Int} {m : Mm} (h : (gr p n D l m).1 = false) : (gr p n D l m).2.1 = l := by
 cases n with
 | zero => cases h
 | succ n =>
   rw [gr] at h |-
   split
   · rfl
   · rename_i h1; rw [if_neg h1] at h
     split
     · rename_i h2; rw [if_pos h2, h2] at h; cases h
     · rfl
theorem lpK_stop {p : List Int} {f : Nat -> List Int -> Mm -> Res} {D : Nat} {l : List Int} {m : Mm} {k : Nat} (h : (lpK p f D l m k).1 = true) : ∀ j, lpK p f D l m (k + j) = lpK p f D l m k
 | 0 => rfl
 | j + 1 => by rw [show k + (j + 1) = k + j + 1 by omega, lpK, lpK_stop h j, if_pos h]
def clo55 (a b c d : Nat) : AV := .clo 55 [] [.ptr a 0 [], .ptr b 0 [], .ptr c 0 [], .ptr d 0 []]
def mmO (m : Mm) : Ob := .mo I64 .bool m
def gS (v : Nat) (n : Int) (p l : List Int) (m : Mm) : List Ob := [.bx (.own 1 v), .sc v 3 I64 l, .bx (.ptr 3 0 []), cxO n p, .bx (.mp 5), mmO m, .bx (clo55 0 2 4 6)]
def aS (D : Int) : List AV := [.int .i64 D, .ptr 0 0 [], .ptr 2 0 [], .ptr 4 0 [], .ptr 6 0 []]
structure pre55 (n : Int) (p : List Int) (lv D : Nat) (l : List Int) : Prop where
 h : cxOk n p
 D : D < 2 ^ p.length
 l : l.length + lv = p.length
def GS (lv : Nat) : Prop := ∀ (n : Int) (p : List Int) (D : Nat) (l : List Int) (m : Mm), pre55 n p lv D l -> GCall Try.prog gl 55 false (aS D) (gS 0 n p l m) [.bool (gr p lv D l m).1] (gS 1 n p (gr p lv D l m).2.1 (gr p lv D l m).2.2)
def unMm : Ob -> Option Mm
 | .mo k v m => (if h : k = I64 /\ v = .bool then some (by obtain ⟨rfl, rfl⟩ := h; exact m) else none)
 | _ => none
def unSc : Ob -> Option (List Int)
 | .sc _ _ e xs => castL e I64 xs
 | _ => none
abbrev G5 := Int × Cx3 × List Int × Mm
def get55 (xs : List AV) (obs : List Ob) : Option G5 :=
 match xs with
 | .int .i64 d :: _ => (match unSc (obs.getD 1 .gone), unCx (obs.getD 3 .gone), unMm (obs.getD 5 .gone) with
   | some l, some x, some m => some (d, x, l, m)
   | _, _, _ => none)
 | _ => none
def gSq (v : Nat) (x : Cx3) (l : List Int) (m : Mm) : List Ob := [.bx (.own 1 v), .sc v 3 I64 l, .bx (.ptr 3 0 []), cxQ x, .bx (.mp 5), mmO m, .bx (clo55 0 2 4 6)]
structure ok55 (lv : Nat) (x : G5) : Prop where
 h : okC x.2.1
 d : 0 <= x.1
 p : pre55 x.2.1.1 x.2.1.2.1 lv x.1.toNat x.2.2.1
def e55S (lv : Nat) (h : GS lv) : Entry Try.prog gl := entryW 55 ⟨Try.f55, by kernel_rfl, by kernel_rfl, by kernel_rfl⟩ true get55 (ok55 lv) false (fun x => aS x.1) (fun x => gSq 0 x.2.1 x.2.2.1 x.2.2.2) (fun x => [.bool (gr x.2.1.2.1 lv x.1.toNat x.2.2.1 x.2.2.2).1])
 (fun x => gSq 1 x.2.1 (gr x.2.1.2.1 lv x.1.toNat x.2.2.1 x.2.2.2).2.1 (gr x.2.1.2.1 lv x.1.toNat x.2.2.1 x.2.2.2).2.2) (fun x hx => by
   have := h _ _ _ _ x.2.2.2 hx.p
   rw [Int.toNat_of_nonneg hx.d] at this
   have e : ∀ v l m, gSq v x.2.1 l m = gS v x.2.1.1 x.2.1.2.1 l m := fun v l m => by unfold gSq gS; rw [cxQ_ok hx.h]
   rw [e, e]; exact this)
noncomputable abbrev X55 (es : EL) : Cy := Xb es 7 [1] (fun _ => none)
theorem gS0 : GS 0 := by
 intro n p D l m hp
 refine gcall_of (X := (X55 [e56])) ((Xb_ok _ _ _ _)) (f := 55) (fn := Try.f55) (c := bodyOf Try.f55) (by kernel_rfl) (by kernel_rfl) (view := false) (rvs := [.tmp 6]) (by kernel_rfl) (H := fun _ => none) 80 (by kernel_rfl) ?_
 refine of_eq (q := (fun (d : Prop) => (fun (c : Bool) => (fun (b : Prop) => (fun (a : Prop) => b /\ b /\ b /\ b /\ b /\ b /\ b /\ b /\ b /\ (d -> b /\ b /\ (true = true /\ b) /\ a) /\ (¬d -> b /\ b /\ b /\ (c = true -> b /\ b /\ (false = true /\ b) /\ a) /\ (c = false -> b /\ b /\ b /\ b /\ b /\ b /\ False))) (b /\ l = (gr p (0 : Nat) D l m).snd.fst /\ b /\ (n = n /\ p = p /\ mk (isF p) = mk (isF p) /\ b) /\ b /\ m = (gr p (0 : Nat) D l m).snd.snd /\ (b /\ b /\ b /\ b /\ b /\ b) /\ b)) (True)) ((mGet I64 m (D : Int)).getD false)) ((l.length : Int) = (p.length : Int))) (by kernel_rfl) ?_
 simp only [zz]
 have h1 := hp.l
 exact ⟨fun _ => ⟨rfl, rfl⟩, fun h => absurd (by omega) h⟩
noncomputable def L55_0 : Code := lp (bodyOf Try.f55) 0
theorem or_pow10 {D k : Nat} (hD : D < 1024) (hk : k < 10) : bOr .i64 (D : Int) (1 * 2 ^ k) = ((D ||| 2 ^ k : Nat) : Int) /\ D ||| 2 ^ k < 1024 /\ (1 : Int) * 2 ^ k <= 512 /\ (0 : Int) <= 1 * 2 ^ k := by
 have h2 : 2 ^ k <= 2 ^ 9 := Nat.pow_le_pow_right (by decide) (by omega)
 have e : (2 ^ k : Int) = ((2 ^ k : Nat) : Int) := by rw [Int.natCast_pow]; try rfl
 have h3 : D ||| 2 ^ k < 2 ^ 10 := Nat.or_lt_two_pow hD (by omega)
 have hb : bOr .i64 (D : Int) ((2 ^ k : Nat) : Int) = ((D ||| 2 ^ k : Nat) : Int) := bOr_nat (by omega) (by omega)
 rw [Int.one_mul, e]
 refine ⟨hb, by omega, ?_, Int.natCast_nonneg _⟩
 generalize 2 ^ k = P at *
 omega
theorem lpK_go {p : List Int} {f : Nat -> List Int -> Mm -> Res} {D : Nat} {l : List Int} {m : Mm} {k : Nat} (h : (lpK p f D l m k).1 = false) : lpK p f D l m (k + 1) = if D / 2 ^ k % 2 = 1 ∨ flw p D k = false then lpK p f D l m k else
     if (f (D ||| 2 ^ k) (l ++ [(k : Int)]) (lpK p f D l m k).2.2).1 = true then f (D ||| 2 ^ k) (l ++ [(k : Int)]) (lpK p f D l m k).2.2
     else (false, l, (f (D ||| 2 ^ k) (l ++ [(k : Int)]) (lpK p f D l m k).2.2).2.2) := by rw [lpK, if_neg (by simp [h])]
theorem pre_D {n : Int} {p : List Int} {lv D : Nat} {l : List Int} (h : pre55 n p lv D l) : D < 1024 := by
 have := Nat.pow_le_pow_right (show 0 < 2 by decide) h.h.2.1.2
 have := h.D
 omega
def stS (v : Nat) (n : Int) (p : List Int) (f : Nat -> List Int -> Mm -> Res) (D : Nat) (l : List Int) (m : Mm) (k : Nat) : St := ⟨aS D ++ dd 18 ++ .int .i64 p.length :: .int .i64 k :: dd 34, gS v n p l (lpK p f D l m k).2.2⟩
def inS (p : List Int) (f : Nat -> List Int -> Mm -> Res) (D : Nat) (l : List Int) (m : Mm) (k : Nat) : Prop := k <= p.length /\ (lpK p f D l m k).1 = false
def fmS (n : Int) (p : List Int) (f : Nat -> List Int -> Mm -> Res) (D : Nat) (l : List Int) (m : Mm) : List Fam := [⟨Nat, inS p f D l m, stS 0 n p f D l m, fun k => p.length - k, fun _ _ => none⟩, ⟨Nat, inS p f D l m, stS 1 n p f D l m, fun k => p.length - k, fun _ _ => none⟩]
def exS (n : Int) (p : List Int) (f : Nat -> List Int -> Mm -> Res) (D : Nat) (l : List Int) (m : Mm) : List (List Nat × Ex) := [([0, 1, 2, 3, 4], ⟨0, Unit, fun _ => (lpK p f D l m p.length).1 = false, fun _ => ⟨aS D ++ dd 54, gS 0 n p l (lpK p f D l m p.length).2.2⟩⟩), ([0, 1, 2, 3, 4], ⟨0, Unit, fun _ => (lpK p f D l m p.length).1 = false, fun _ => ⟨aS D ++ dd 54, gS 1 n p l (lpK p f D l m p.length).2.2⟩⟩)]
def hS (n : Int) (p : List Int) (f : Nat -> List Int -> Mm -> Res) (D : Nat) (l : List Int) (m : Mm) : Hint := ⟨chks 7 [0, 1, 2, 3, 4, 23, 24] (fmS n p f D l m), (exS n p f D l m).map (·.2)⟩
noncomputable def HS (n : Int) (p : List Int) (f : Nat -> List Int -> Mm -> Res) (D : Nat) (l : List Int) (m : Mm) : Nat -> Option Hint := fun _ => some (hS n p f D l m)
theorem loopS (lv : Nat) (h' : GS lv) (n : Int) (p : List Int) (D : Nat) (l : List Int) (m : Mm) (hp : pre55 n p (lv + 1) D l) (hm : ¬ mg m D = true) : LoopOK (X55 [e56, e55S lv h']) L55_0 (hS n p (gr p lv) D l m)
   (RetR (X55 [e56, e55S lv h']) false false [.tmp 6] [.bool (gr p (lv + 1) D l m).1] (gS 1 n p (gr p (lv + 1) D l m).2.1 (gr p (lv + 1) D l m).2.2)) := by
 refine loop_fams (Xb_ok _ _ _ _) [0, 1, 2, 3, 4, 23, 24] (fmS n p (gr p lv) D l m) (exS n p (gr p lv) D l m) 150 ⟨fun (k : Nat) hk => ?_, fun (k : Nat) hk => ?_, trivial⟩
 · refine of_eq (q := (fun (w : List Bool) => (fun (v : Int) => (fun (u : Res) => (fun (t : Nat) => (fun (q : Int) => (fun (o : Res) => (fun (i : Int) => (fun (h : Int) => (fun (A : Prop) => (fun (j : Int) => (fun (g : Int) => (fun (x : Prop) => (fun (e : Mm) => (fun (d : Prop) => (fun (f : Prop) => (fun (s : Prop) => (fun (c : Prop) => (fun (z : Prop) => (fun (b : Prop) => (fun (a : Res) => (fun (r : Int) => d /\ (g < i -> d /\ d /\ d /\ d /\ inR .u64 g /\ x /\ d /\ d /\ d /\ (bAnd .i64 (h / v) q = q -> d /\ b) /\ (¬bAnd .i64 (h / v) q = q -> d /\ d /\ d /\ ((ok56 (h, g, n, p, w) /\ (d /\ A /\ g = g /\ d) /\ c /\ d) /\ d /\ d) /\ d /\ d /\ ((!flw p D k) = true -> b) /\ ((!flw p D k) = false -> d /\ d /\ d /\ sumPre l.length [g].length (nat_lit 8) /\ d /\ d /\ d /\ d /\ inR .u64 g /\ (x /\ (-9223372036854775808 : Int) <= q * v /\ q * v <= 9223372036854775807) /\ d /\ ((ok55 lv (j, (n, p, w), l ++ [g], e) /\ (j = j /\ f) /\ d /\ l ++ [g] = l ++ [g] /\ d /\ c /\ d /\ e = e /\ s) /\ d /\ d /\ d /\ f) /\ (a.fst = true -> d /\ d /\ (true = u.fst /\ d) /\ d /\ a.snd.fst = u.snd.fst /\ d /\ c /\ d /\ a.snd.snd = u.snd.snd /\ s) /\ (a.fst = false -> d /\ d /\ d /\ inR .i64 (r - q) /\ ((0 : Int) <= r - q /\ r - q <= r) /\ d /\ inR .i64 (g + q) /\ d /\ ((∃ (y : Nat), (inS p (gr p lv) D l m y /\ t - y < t - k) /\ (A /\ d /\ d /\ d /\ d /\ i = i /\ g + q = (y : Int) /\ d) /\ False /\ False /\ d /\ c /\ d /\ a.snd.snd = (lpK p (gr p lv) D l m y).snd.snd /\ s) ∨ ∃ (y : Nat), (inS p (gr p lv) D l m y /\ t - y < t - k) /\ (A /\ d /\ d /\ d /\ d /\ i = i /\ g + q = (y : Int) /\ d) /\ d /\ List.take (r - q).toNat a.snd.fst = l /\ d /\ c /\ d /\ a.snd.snd = (lpK p (gr p lv) D l m y).snd.snd /\ s))))) /\ (¬g < i -> (∃ (y : Unit), o.fst = false /\ (A /\ f) /\ d /\ l = l /\ z) ∨ ∃ (y : Unit), o.fst = false /\ (A /\ f) /\ False /\ False /\ z)) ((a.snd.fst.length : Int))) (gr p lv j.toNat (l ++ [g]) e)) (inR .i64 (g + q) /\ d /\ ((∃ (y : Nat), (inS p (gr p lv) D l m y /\ t - y < t - k) /\ (A /\ d /\ d /\ d /\ d /\ i = i /\ g + q = (y : Int) /\ d) /\ d /\ l = l /\ d /\ c /\ d /\ e = (lpK p (gr p lv) D l m y).snd.snd /\ s) ∨ ∃ (y : Nat), (inS p (gr p lv) D l m y /\ t - y < t - k) /\ (A /\ d /\ d /\ d /\ d /\ i = i /\ g + q = (y : Int) /\ d) /\ False /\ False /\ d /\ c /\ d /\ e = (lpK p (gr p lv) D l m y).snd.snd /\ s))) (d /\ c /\ d /\ e = o.snd.snd /\ s)) (n = n /\ p = p /\ w = w /\ d)) ((d /\ f) /\ d)) (d /\ d /\ d /\ d /\ d)) (True)) ((lpK p (gr p lv) D l m k).snd.snd)) ((0 : Int) <= g /\ g < bitsOf .i64)) ((k : Int))) (bOr .i64 h (q * v))) (h = h)) ((D : Int))) ((t : Int))) (lpK p (gr p lv) D l m t)) ((1 : Int))) (p.length)) (gr p (lv + 1) D l m)) ((2 : Int) ^ k)) (mk (isF p))) (by kernel_rfl) ?_
   simp only [zz]
   obtain ⟨k1, k2⟩ := hk
   have hl := hp.l
   have hc := hp.h.2.1
   have hD := pre_D hp
   refine ⟨fun h => ?_, fun h => by rw [show p.length = k by omega]; exact ⟨k2, rfl⟩⟩
   have hkp : k < p.length := by omega
   have hb := or_pow10 hD (k := k) (by omega)
   have hst := lpK_go k2
   rw [bit_shr hD, hb.1, Int.toNat_natCast]
   have hskip : (D / 2 ^ k % 2 = 1 ∨ flw p D k = false) -> inR .i64 ((k : Int) + 1) /\ ∃ y : Nat, (inS p (gr p lv) D l m y /\ p.length - y < p.length - k) /\ (k : Int) + 1 = (y : Int) /\ (lpK p (gr p lv) D l m k).2.2 = (lpK p (gr p lv) D l m y).2.2 := fun hh => by
     rw [if_pos hh] at hst
     exact ⟨by simp only [inR]; omega, k + 1, ⟨⟨by omega, by rw [hst]; exact k2⟩, by omega⟩, by omega, by rw [hst]⟩
   refine ⟨by simp only [inR]; omega, ⟨by omega, by simp only [bitsOf]; omega⟩, fun hx => hskip (.inl (by omega)), fun hx => ⟨⟨⟨hp.h, rfl⟩, ⟨by simp only; omega, by simp only; omega⟩, ⟨by simp only; omega, by simp only; omega⟩⟩, fun hx2 => hskip (.inr (by simpa using hx2)), fun hx2 => ?_⟩⟩
   have hx2 : flw p D k = true := by simpa using hx2
   rw [if_neg (by simp [hx2]; omega)] at hst
   have hlt : D ||| 2 ^ k < 2 ^ p.length := Nat.or_lt_two_pow hp.D (Nat.pow_lt_pow_right (by decide) hkp)
   have hpre : pre55 n p lv (D ||| 2 ^ k) (l ++ [(k : Int)]) := ⟨hp.h, hlt, by simp; omega⟩
   refine ⟨by unfold sumPre; simp; omega, by simp only [inR]; omega, ⟨⟨by omega, by simp only [bitsOf]; omega⟩, by omega, by omega⟩, ⟨⟨hp.h, rfl⟩, by simp only; omega, hpre⟩, fun hr => ?_, fun hr => ?_⟩
   · have hr : (gr p lv (D ||| 2 ^ k) (l ++ [(k : Int)]) (lpK p (gr p lv) D l m k).2.2).1 = true := hr
     rw [if_pos hr] at hst
     have hs := lpK_stop (k := k + 1) (by rw [hst]; exact hr) (p.length - (k + 1))
     rw [show k + 1 + (p.length - (k + 1)) = p.length by omega, hst] at hs
     have e : gr p (lv + 1) D l m = gr p lv (D ||| 2 ^ k) (l ++ [(k : Int)]) (lpK p (gr p lv) D l m k).2.2 := by rw [gr, if_neg hm, hs, if_pos hr]
     rw [e]
     exact ⟨hr.symm, rfl, rfl⟩
   · have hr : (gr p lv (D ||| 2 ^ k) (l ++ [(k : Int)]) (lpK p (gr p lv) D l m k).2.2).1 = false := hr
     rw [if_neg (by simp [hr])] at hst
     have h2 := gr_list hr
     have q1 : inR .i64 (((gr p lv (D ||| 2 ^ k) (l ++ [(k : Int)]) (lpK p (gr p lv) D l m k).2.2).2.1.length : Int) - 1) := by rw [h2]; simp only [inR]; simp; omega
     have q2 : 0 <= ((gr p lv (D ||| 2 ^ k) (l ++ [(k : Int)]) (lpK p (gr p lv) D l m k).2.2).2.1.length : Int) - 1 /\ ((gr p lv (D ||| 2 ^ k) (l ++ [(k : Int)]) (lpK p (gr p lv) D l m k).2.2).2.1.length : Int) - 1 <= ((gr p lv (D ||| 2 ^ k) (l ++ [(k : Int)]) (lpK p (gr p lv) D l m k).2.2).2.1.length : Int) := by rw [h2]; simp; omega
     have q3 : (gr p lv (D ||| 2 ^ k) (l ++ [(k : Int)]) (lpK p (gr p lv) D l m k).2.2).2.1.take (((gr p lv (D ||| 2 ^ k) (l ++ [(k : Int)]) (lpK p (gr p lv) D l m k).2.2).2.1.length : Int) - 1).toNat = l := by rw [h2]; simp
     have q4 : (gr p lv (D ||| 2 ^ k) (l ++ [(k : Int)]) (lpK p (gr p lv) D l m k).2.2).2.2 = (lpK p (gr p lv) D l m (k + 1)).2.2 := by rw [hst]
     exact ⟨q1, q2, by simp only [inR]; omega, k + 1, ⟨⟨by omega, by rw [hst]⟩, by omega⟩, by omega, q3, q4⟩
 · refine of_eq (q := (fun (w : Int) => (fun (v : List Bool) => (fun (u : Res) => (fun (t : Nat) => (fun (q : Int) => (fun (o : Res) => (fun (i : Int) => (fun (h : Int) => (fun (A : Prop) => (fun (j : Int) => (fun (g : Int) => (fun (x : Prop) => (fun (e : Mm) => (fun (d : Prop) => (fun (f : Prop) => (fun (s : Prop) => (fun (c : Prop) => (fun (z : Prop) => (fun (b : Prop) => (fun (a : Res) => (fun (r : Int) => d /\ (g < i -> d /\ d /\ d /\ d /\ inR .u64 g /\ x /\ d /\ d /\ d /\ (bAnd .i64 (h / w) q = q -> d /\ b) /\ (¬bAnd .i64 (h / w) q = q -> d /\ d /\ d /\ ((ok56 (h, g, n, p, v) /\ (d /\ A /\ g = g /\ d) /\ c /\ d) /\ d /\ d) /\ d /\ d /\ ((!flw p D k) = true -> b) /\ ((!flw p D k) = false -> d /\ d /\ d /\ sumPre l.length [g].length (nat_lit 8) /\ d /\ d /\ d /\ d /\ inR .u64 g /\ (x /\ (-9223372036854775808 : Int) <= q * w /\ q * w <= 9223372036854775807) /\ d /\ ((ok55 lv (j, (n, p, v), l ++ [g], e) /\ (j = j /\ f) /\ d /\ l ++ [g] = l ++ [g] /\ d /\ c /\ d /\ e = e /\ s) /\ d /\ d /\ d /\ f) /\ (a.fst = true -> d /\ d /\ (true = u.fst /\ d) /\ d /\ a.snd.fst = u.snd.fst /\ d /\ c /\ d /\ a.snd.snd = u.snd.snd /\ s) /\ (a.fst = false -> d /\ d /\ d /\ inR .i64 (r - q) /\ ((0 : Int) <= r - q /\ r - q <= r) /\ d /\ inR .i64 (g + q) /\ d /\ ((∃ (y : Nat), (inS p (gr p lv) D l m y /\ t - y < t - k) /\ (A /\ d /\ d /\ d /\ d /\ i = i /\ g + q = (y : Int) /\ d) /\ False /\ False /\ d /\ c /\ d /\ a.snd.snd = (lpK p (gr p lv) D l m y).snd.snd /\ s) ∨ ∃ (y : Nat), (inS p (gr p lv) D l m y /\ t - y < t - k) /\ (A /\ d /\ d /\ d /\ d /\ i = i /\ g + q = (y : Int) /\ d) /\ d /\ List.take (r - q).toNat a.snd.fst = l /\ d /\ c /\ d /\ a.snd.snd = (lpK p (gr p lv) D l m y).snd.snd /\ s))))) /\ (¬g < i -> (∃ (y : Unit), o.fst = false /\ (A /\ f) /\ False /\ False /\ z) ∨ ∃ (y : Unit), o.fst = false /\ (A /\ f) /\ d /\ l = l /\ z)) ((a.snd.fst.length : Int))) (gr p lv j.toNat (l ++ [g]) e)) (inR .i64 (g + q) /\ d /\ ((∃ (y : Nat), (inS p (gr p lv) D l m y /\ t - y < t - k) /\ (A /\ d /\ d /\ d /\ d /\ i = i /\ g + q = (y : Int) /\ d) /\ False /\ False /\ d /\ c /\ d /\ e = (lpK p (gr p lv) D l m y).snd.snd /\ s) ∨ ∃ (y : Nat), (inS p (gr p lv) D l m y /\ t - y < t - k) /\ (A /\ d /\ d /\ d /\ d /\ i = i /\ g + q = (y : Int) /\ d) /\ d /\ l = l /\ d /\ c /\ d /\ e = (lpK p (gr p lv) D l m y).snd.snd /\ s))) (d /\ c /\ d /\ e = o.snd.snd /\ s)) (n = n /\ p = p /\ v = v /\ d)) ((d /\ f) /\ d)) (d /\ d /\ d /\ d /\ d)) (True)) ((lpK p (gr p lv) D l m k).snd.snd)) ((0 : Int) <= g /\ g < bitsOf .i64)) ((k : Int))) (bOr .i64 h (q * w))) (h = h)) ((D : Int))) ((t : Int))) (lpK p (gr p lv) D l m t)) ((1 : Int))) (p.length)) (gr p (lv + 1) D l m)) (mk (isF p))) ((2 : Int) ^ k)) (by kernel_rfl) ?_
   simp only [zz]
   obtain ⟨k1, k2⟩ := hk
   have hl := hp.l
   have hc := hp.h.2.1
   have hD := pre_D hp
   refine ⟨fun h => ?_, fun h => by rw [show p.length = k by omega]; exact ⟨k2, rfl⟩⟩
   have hkp : k < p.length := by omega
   have hb := or_pow10 hD (k := k) (by omega)
   have hst := lpK_go k2
   rw [bit_shr hD, hb.1, Int.toNat_natCast]
   have hskip : (D / 2 ^ k % 2 = 1 ∨ flw p D k = false) -> inR .i64 ((k : Int) + 1) /\ ∃ y : Nat, (inS p (gr p lv) D l m y /\ p.length - y < p.length - k) /\ (k : Int) + 1 = (y : Int) /\ (lpK p (gr p lv) D l m k).2.2 = (lpK p (gr p lv) D l m y).2.2 := fun hh => by
     rw [if_pos hh] at hst
     exact ⟨by simp only [inR]; omega, k + 1, ⟨⟨by omega, by rw [hst]; exact k2⟩, by omega⟩, by omega, by rw [hst]⟩
   refine ⟨by simp only [inR]; omega, ⟨by omega, by simp only [bitsOf]; omega⟩, fun hx => hskip (.inl (by omega)), fun hx => ⟨⟨⟨hp.h, rfl⟩, ⟨by simp only; omega, by simp only; omega⟩, ⟨by simp only; omega, by simp only; omega⟩⟩, fun hx2 => hskip (.inr (by simpa using hx2)), fun hx2 => ?_⟩⟩
   have hx2 : flw p D k = true := by simpa using hx2
   rw [if_neg (by simp [hx2]; omega)] at hst
   have hlt : D ||| 2 ^ k < 2 ^ p.length := Nat.or_lt_two_pow hp.D (Nat.pow_lt_pow_right (by decide) hkp)
   have hpre : pre55 n p lv (D ||| 2 ^ k) (l ++ [(k : Int)]) := ⟨hp.h, hlt, by simp; omega⟩
   refine ⟨by unfold sumPre; simp; omega, by simp only [inR]; omega, ⟨⟨by omega, by simp only [bitsOf]; omega⟩, by omega, by omega⟩, ⟨⟨hp.h, rfl⟩, by simp only; omega, hpre⟩, fun hr => ?_, fun hr => ?_⟩
   · have hr : (gr p lv (D ||| 2 ^ k) (l ++ [(k : Int)]) (lpK p (gr p lv) D l m k).2.2).1 = true := hr
     rw [if_pos hr] at hst
     have hs := lpK_stop (k := k + 1) (by rw [hst]; exact hr) (p.length - (k + 1))
     rw [show k + 1 + (p.length - (k + 1)) = p.length by omega, hst] at hs
     have e : gr p (lv + 1) D l m = gr p lv (D ||| 2 ^ k) (l ++ [(k : Int)]) (lpK p (gr p lv) D l m k).2.2 := by rw [gr, if_neg hm, hs, if_pos hr]
     rw [e]
     exact ⟨hr.symm, rfl, rfl⟩
   · have hr : (gr p lv (D ||| 2 ^ k) (l ++ [(k : Int)]) (lpK p (gr p lv) D l m k).2.2).1 = false := hr
     rw [if_neg (by simp [hr])] at hst
     have h2 := gr_list hr
     have q1 : inR .i64 (((gr p lv (D ||| 2 ^ k) (l ++ [(k : Int)]) (lpK p (gr p lv) D l m k).2.2).2.1.length : Int) - 1) := by rw [h2]; simp only [inR]; simp; omega
     have q2 : 0 <= ((gr p lv (D ||| 2 ^ k) (l ++ [(k : Int)]) (lpK p (gr p lv) D l m k).2.2).2.1.length : Int) - 1 /\ ((gr p lv (D ||| 2 ^ k) (l ++ [(k : Int)]) (lpK p (gr p lv) D l m k).2.2).2.1.length : Int) - 1 <= ((gr p lv (D ||| 2 ^ k) (l ++ [(k : Int)]) (lpK p (gr p lv) D l m k).2.2).2.1.length : Int) := by rw [h2]; simp; omega
     have q3 : (gr p lv (D ||| 2 ^ k) (l ++ [(k : Int)]) (lpK p (gr p lv) D l m k).2.2).2.1.take (((gr p lv (D ||| 2 ^ k) (l ++ [(k : Int)]) (lpK p (gr p lv) D l m k).2.2).2.1.length : Int) - 1).toNat = l := by rw [h2]; simp
     have q4 : (gr p lv (D ||| 2 ^ k) (l ++ [(k : Int)]) (lpK p (gr p lv) D l m k).2.2).2.2 = (lpK p (gr p lv) D l m (k + 1)).2.2 := by rw [hst]
     exact ⟨q1, q2, by simp only [inR]; omega, k + 1, ⟨⟨by omega, by rw [hst]⟩, by omega⟩, by omega, q3, q4⟩
theorem gS1 (lv : Nat) (h' : GS lv) : GS (lv + 1) := by
 intro n p D l m hp
 have hL := fun hm => loopS lv h' n p D l m hp hm
 refine gcall_of (X := (X55 [e56, e55S lv h'])) ((Xb_ok _ _ _ _)) (f := 55) (fn := Try.f55) (c := bodyOf Try.f55) (by kernel_rfl) (by kernel_rfl) (view := false) (rvs := [.tmp 6]) (by kernel_rfl) (H := (HS n p (gr p lv) D l m)) 80 (by kernel_rfl) ?_
 refine of_eq (q := (fun (k : Res) => (fun (j : Cy) => (fun (i : Int) => (fun (f : Int) => (fun (d : Prop) => (fun (e : Prop) => (fun (c : Prop) => (fun (b : Res) => (fun (g : Prop) => (fun (a : Prop) => d /\ d /\ d /\ d /\ d /\ d /\ d /\ d /\ d /\ ((l.length : Int) = i -> d /\ d /\ (true = b.fst /\ d) /\ g) /\ (¬(l.length : Int) = i -> d /\ d /\ d /\ ((mGet I64 m f).getD false = true -> d /\ d /\ (false = b.fst /\ d) /\ g) /\ ((mGet I64 m f).getD false = false -> d /\ d /\ d /\ d /\ d /\ d /\ LoopOK j L55_0 (hS n p (gr p lv) D l m) (RetR j false false [ResultVar.tmp (6 : Tmp)] [AV.bool b.fst] (gS (1 : Nat) n p b.snd.fst b.snd.snd)) /\ ((∃ (y : Nat), inS p (gr p lv) D l m y /\ (f = f /\ d /\ d /\ d /\ d /\ i = (p.length : Int) /\ (0 : Int) = (y : Int) /\ d) /\ d /\ l = l /\ d /\ c /\ d /\ m = (lpK p (gr p lv) D l m y).snd.snd /\ e) ∨ ∃ (y : Nat), inS p (gr p lv) D l m y /\ (f = f /\ d /\ d /\ d /\ d /\ i = (p.length : Int) /\ (0 : Int) = (y : Int) /\ d) /\ False /\ False /\ d /\ c /\ d /\ m = (lpK p (gr p lv) D l m y).snd.snd /\ e) /\ a /\ a /\ d))) (∀ (y : Unit), k.fst = false -> d /\ d /\ d /\ d /\ d /\ (false = b.fst /\ d) /\ d /\ l = b.snd.fst /\ d /\ c /\ d /\ mPut I64 k.snd.snd f true = b.snd.snd /\ e)) (d /\ l = b.snd.fst /\ d /\ c /\ d /\ m = b.snd.snd /\ e)) (gr p (lv + 1) D l m)) (n = n /\ p = p /\ mk (isF p) = mk (isF p) /\ d)) ((d /\ d /\ d /\ d /\ d /\ d) /\ d)) (True)) ((D : Int))) ((p.length : Int))) (X55 [e56, e55S lv h'])) (lpK p (gr p lv) D l m p.length)) (by kernel_rfl) ?_
 simp only [zz]
 have hl := hp.l
 have hg : mg m D = (mGet I64 m D).getD false := rfl
 refine ⟨fun h => by omega, fun _ => ⟨fun h => ?_, fun h => ⟨hL (by rw [hg, h]; simp) , ⟨0, ⟨Nat.zero_le _, rfl⟩, rfl, rfl⟩, fun _ hf => ?_, fun _ hf => ?_⟩⟩⟩
 · rw [gr, hg, if_pos h]; exact ⟨rfl, rfl, rfl⟩
 · rw [gr, hg, if_neg (by simp [h]), if_neg (by simp [hf])]; exact ⟨rfl, rfl, rfl⟩
 · rw [gr, hg, if_neg (by simp [h]), if_neg (by simp [hf])]; exact ⟨rfl, rfl, rfl⟩
theorem gS_all : ∀ lv, GS lv
 | 0 => gS0
 | lv + 1 => gS1 lv (gS_all lv)
def gN (n : Int) (p : List Int) (m : Mm) : List Ob := [.bx nl, .bx (.ptr 2 0 []), cxO n p, .bx (.mp 4), mmO m, .bx (clo55 0 1 3 5)]
def gO (n : Int) (p l : List Int) (m : Mm) : List Ob := [.bx (.own 6 0), .bx (.ptr 2 0 []), cxO n p, .bx (.mp 4), mmO m, .bx (clo55 0 1 3 5), .sc 0 3 I64 l]
def aN (D : Int) : List AV := [.int .i64 D, .ptr 0 0 [], .ptr 1 0 [], .ptr 3 0 [], .ptr 5 0 []]
def sN (n : Int) (p : List Int) (D : Nat) (m : Mm) (k : Nat) : St := ⟨aN D ++ dd 18 ++ .int .i64 p.length :: .int .i64 k :: dd 34, gN n p m⟩
def sO (n : Int) (p : List Int) (f : Nat -> List Int -> Mm -> Res) (D : Nat) (m : Mm) (k : Nat) : St := ⟨aN D ++ dd 18 ++ .int .i64 p.length :: .int .i64 k :: dd 34, gO n p [] (lpK p f D [] m k).2.2⟩
def fmN (n : Int) (p : List Int) (f : Nat -> List Int -> Mm -> Res) (D : Nat) (m : Mm) : List Fam := [⟨Nat, fun k => k = 0, sN n p D m, fun k => p.length - k, fun _ _ => none⟩, ⟨Nat, inS p f D [] m, sO n p f D m, fun k => p.length - k, fun _ _ => none⟩]
def exN (n : Int) (p : List Int) (f : Nat -> List Int -> Mm -> Res) (D : Nat) (m : Mm) : List (List Nat × Ex) := [([0, 1, 2, 3, 4], ⟨0, Unit, fun _ => (lpK p f D [] m p.length).1 = false, fun _ => ⟨aN D ++ dd 54, gO n p [] (lpK p f D [] m p.length).2.2⟩⟩)]
def hN (n : Int) (p : List Int) (f : Nat -> List Int -> Mm -> Res) (D : Nat) (m : Mm) : Hint := ⟨chks 6 [0, 1, 2, 3, 4, 23, 24] (fmN n p f D m), (exN n p f D m).map (·.2)⟩
noncomputable def HN (n : Int) (p : List Int) (f : Nat -> List Int -> Mm -> Res) (D : Nat) (m : Mm) : Nat -> Option Hint := fun _ => some (hN n p f D m)
noncomputable abbrev XN (lv : Nat) : Cy := Xb [e56, e55S lv (gS_all lv)] 6 [] (fun _ => none)
theorem flw_zero (p : List Int) (k : Nat) : flw p 0 k = true := by
 refine decide_eq_true fun j _ h => ?_
 rw [Nat.zero_div] at h; cases h
theorem loopN (lv : Nat) (n : Int) (p : List Int) (D : Nat) (m : Mm) (hp : pre55 n p (lv + 1) D []) (hD0 : D = 0) (hm : ¬ mg m D = true) : LoopOK (XN lv) L55_0 (hN n p (gr p lv) D m)
   (RetR (XN lv) false false [.tmp 6] [.bool (gr p (lv + 1) D [] m).1] (gO n p (gr p (lv + 1) D [] m).2.1 (gr p (lv + 1) D [] m).2.2)) := by
 refine loop_fams (Xb_ok _ _ _ _) [0, 1, 2, 3, 4, 23, 24] (fmN n p (gr p lv) D m) (exN n p (gr p lv) D m) 150 ⟨fun (k : Nat) hk => ?_, fun (k : Nat) hk => ?_, trivial⟩
 · refine of_eq (q := (fun (s : List Bool) => (fun (r : Int) => (fun (q : Res) => (fun (o : Nat) => (fun (j : Int) => (fun (h : Int) => (fun (g : Int) => (fun (i : Int) => (fun (e : Int) => (fun (t : Prop) => (fun (d : Prop) => (fun (f : Prop) => (fun (u : Prop) => (fun (c : Prop) => (fun (v : Prop) => (fun (b : Prop) => (fun (a : Res) => (fun (l : Int) => d /\ (e < h -> d /\ d /\ d /\ d /\ inR .u64 e /\ t /\ d /\ d /\ d /\ (bAnd .i64 (g / r) j = j -> d /\ b) /\ (¬bAnd .i64 (g / r) j = j -> d /\ d /\ d /\ ((ok56 (g, e, n, p, s) /\ (d /\ g = g /\ e = e /\ d) /\ c /\ d) /\ d /\ d) /\ d /\ d /\ ((!flw p D k) = true -> b) /\ ((!flw p D k) = false -> d /\ d /\ d /\ sumPre (0 : Nat) [e].length (nat_lit 8) /\ d /\ d /\ d /\ d /\ inR .u64 e /\ (t /\ (-9223372036854775808 : Int) <= j * r /\ j * r <= 9223372036854775807) /\ d /\ ((ok55 lv (i, (n, p, s), [e], m) /\ (i = i /\ f) /\ d /\ [e] = [e] /\ v) /\ d /\ d /\ u) /\ (a.fst = true -> d /\ d /\ (true = q.fst /\ d) /\ d /\ d /\ c /\ d /\ a.snd.snd = q.snd.snd /\ u /\ a.snd.fst = q.snd.fst /\ d) /\ (a.fst = false -> d /\ d /\ d /\ inR .i64 (l - j) /\ ((0 : Int) <= l - j /\ l - j <= l) /\ d /\ inR .i64 (e + j) /\ d /\ ((∃ (y : Nat), (y = 0 /\ o - y < o - k) /\ (g = g /\ d /\ d /\ d /\ d /\ h = h /\ e + j = (y : Int) /\ d) /\ False /\ d /\ c /\ d /\ a.snd.snd = m /\ u /\ d) ∨ ∃ (y : Nat), (inS p (gr p lv) D [] m y /\ o - y < o - k) /\ (g = g /\ d /\ d /\ d /\ d /\ h = h /\ e + j = (y : Int) /\ d) /\ d /\ d /\ c /\ d /\ a.snd.snd = (lpK p (gr p lv) D [] m y).snd.snd /\ u /\ List.take (l - j).toNat a.snd.fst = [] /\ d))))) /\ (¬e < h -> ∃ (y : Unit), (lpK p (gr p lv) D [] m o).fst = false /\ (g = g /\ f) /\ False /\ d /\ c /\ d /\ m = (lpK p (gr p lv) D [] m o).snd.snd /\ u /\ False)) ((a.snd.fst.length : Int))) (gr p lv i.toNat [e] m)) (inR .i64 (e + j) /\ d /\ ((∃ (y : Nat), (y = 0 /\ o - y < o - k) /\ (g = g /\ d /\ d /\ d /\ d /\ h = h /\ e + j = (y : Int) /\ d) /\ d /\ v) ∨ ∃ (y : Nat), (inS p (gr p lv) D [] m y /\ o - y < o - k) /\ (g = g /\ d /\ d /\ d /\ d /\ h = h /\ e + j = (y : Int) /\ d) /\ False /\ d /\ c /\ d /\ m = (lpK p (gr p lv) D [] m y).snd.snd /\ u /\ False))) (d /\ c /\ d /\ m = m /\ u /\ d)) (n = n /\ p = p /\ s = s /\ d)) (d /\ f)) (d /\ d /\ d /\ d /\ d)) (True)) ((0 : Int) <= e /\ e < bitsOf .i64)) ((k : Int))) (bOr .i64 g (j * r))) ((D : Int))) ((o : Int))) ((1 : Int))) (p.length)) (gr p (lv + 1) D [] m)) ((2 : Int) ^ k)) (mk (isF p))) (by kernel_rfl) ?_
   simp only [zz]
   have hk : k = 0 := hk
   have hl : lv + 1 = p.length := by have := hp.l; simpa using this
   have hc := hp.h.2.1
   have hD := pre_D hp
   refine ⟨fun h => ?_, fun h => by omega⟩
   have hkp : k < p.length := by omega
   have hb := or_pow10 hD (k := k) (by omega)
   have e0 : lpK p (gr p lv) D [] m k = (false, [], m) := by rw [hk]; try rfl
   have hst := lpK_go (p := p) (f := gr p lv) (D := D) (l := []) (m := m) (k := k) (by rw [e0])
   have hf : flw p D k = true := by rw [hD0]; exact flw_zero p k
   have hz : D / 2 ^ k % 2 = 0 := by rw [hD0, Nat.zero_div]
   rw [if_neg (by rw [hz, hf]; simp), e0] at hst
   simp only [List.nil_append] at hst
   rw [bit_shr hD, hb.1, Int.toNat_natCast, hz, hf]
   have hlt : D ||| 2 ^ k < 2 ^ p.length := Nat.or_lt_two_pow hp.D (Nat.pow_lt_pow_right (by decide) hkp)
   have hpre : pre55 n p lv (D ||| 2 ^ k) [(k : Int)] := ⟨hp.h, hlt, by simp; omega⟩
   refine ⟨by simp only [inR]; omega, ⟨by omega, by simp only [bitsOf]; omega⟩, fun hx => absurd hx (by decide), fun hx => ⟨⟨⟨hp.h, rfl⟩, ⟨by simp only; omega, by simp only; omega⟩, ⟨by simp only; omega, by simp only; omega⟩⟩, fun hx2 => absurd hx2 (by decide), fun hx2 => ?_⟩⟩
   refine ⟨by unfold sumPre; simp, by simp only [inR]; omega, ⟨⟨by omega, by simp only [bitsOf]; omega⟩, by omega, by omega⟩, ⟨⟨hp.h, rfl⟩, by simp only; omega, hpre⟩, fun hr => ?_, fun hr => ?_⟩
   · have hr : (gr p lv (D ||| 2 ^ k) [(k : Int)] m).1 = true := hr
     rw [if_pos hr] at hst
     have hs := lpK_stop (k := k + 1) (by rw [hst]; exact hr) (p.length - (k + 1))
     rw [show k + 1 + (p.length - (k + 1)) = p.length by omega, hst] at hs
     have e : gr p (lv + 1) D [] m = gr p lv (D ||| 2 ^ k) [(k : Int)] m := by rw [gr, if_neg hm, hs, if_pos hr]
     rw [e]
     exact ⟨hr.symm, rfl, rfl⟩
   · have hr : (gr p lv (D ||| 2 ^ k) [(k : Int)] m).1 = false := hr
     rw [if_neg (by simp [hr])] at hst
     have h2 := gr_list hr
     have q1 : inR .i64 (((gr p lv (D ||| 2 ^ k) [(k : Int)] m).2.1.length : Int) - 1) := by rw [h2]; simp only [inR]; simp
     have q2 : 0 <= ((gr p lv (D ||| 2 ^ k) [(k : Int)] m).2.1.length : Int) - 1 /\ ((gr p lv (D ||| 2 ^ k) [(k : Int)] m).2.1.length : Int) - 1 <= ((gr p lv (D ||| 2 ^ k) [(k : Int)] m).2.1.length : Int) := by rw [h2]; simp
     have q3 : (gr p lv (D ||| 2 ^ k) [(k : Int)] m).2.1.take (((gr p lv (D ||| 2 ^ k) [(k : Int)] m).2.1.length : Int) - 1).toNat = [] := by rw [h2]; simp
     have q4 : (gr p lv (D ||| 2 ^ k) [(k : Int)] m).2.2 = (lpK p (gr p lv) D [] m (k + 1)).2.2 := by rw [hst]
     exact ⟨q1, q2, by simp only [inR]; omega, k + 1, ⟨⟨by omega, by rw [hst]⟩, by omega⟩, by omega, q4, q3⟩
 · refine of_eq (q := (fun (w : List Int) => (fun (t : List Bool) => (fun (s : Int) => (fun (r : Res) => (fun (q : Nat) => (fun (l : Int) => (fun (i : Int) => (fun (h : Int) => (fun (j : Int) => (fun (f : Int) => (fun (z : List Int) => (fun (u : Prop) => (fun (e : Mm) => (fun (d : Prop) => (fun (g : Prop) => (fun (v : Prop) => (fun (x : Prop) => (fun (c : Prop) => (fun (b : Prop) => (fun (a : Res) => (fun (o : Int) => d /\ (f < i -> d /\ d /\ d /\ d /\ inR .u64 f /\ u /\ d /\ d /\ d /\ (bAnd .i64 (h / s) l = l -> d /\ b) /\ (¬bAnd .i64 (h / s) l = l -> d /\ d /\ d /\ ((ok56 (h, f, n, p, t) /\ (d /\ h = h /\ f = f /\ d) /\ c /\ d) /\ d /\ d) /\ d /\ d /\ ((!flw p D k) = true -> b) /\ ((!flw p D k) = false -> d /\ d /\ d /\ sumPre w.length (f :: w).length (nat_lit 8) /\ d /\ d /\ d /\ d /\ inR .u64 f /\ (u /\ (-9223372036854775808 : Int) <= l * s /\ l * s <= 9223372036854775807) /\ d /\ ((ok55 lv (j, (n, p, t), z, e) /\ (j = j /\ g) /\ d /\ z = z /\ d /\ c /\ d /\ e = e /\ v /\ d) /\ d /\ d /\ v) /\ (a.fst = true -> d /\ d /\ (true = r.fst /\ d) /\ d /\ d /\ c /\ d /\ a.snd.snd = r.snd.snd /\ v /\ a.snd.fst = r.snd.fst /\ d) /\ (a.fst = false -> d /\ d /\ d /\ inR .i64 (o - l) /\ ((0 : Int) <= o - l /\ o - l <= o) /\ d /\ inR .i64 (f + l) /\ d /\ ((∃ (y : Nat), (y = 0 /\ q - y < q - k) /\ (h = h /\ d /\ d /\ d /\ d /\ i = i /\ f + l = (y : Int) /\ d) /\ False /\ d /\ c /\ d /\ a.snd.snd = m /\ v /\ d) ∨ ∃ (y : Nat), (inS p (gr p lv) D w m y /\ q - y < q - k) /\ (h = h /\ d /\ d /\ d /\ d /\ i = i /\ f + l = (y : Int) /\ d) /\ d /\ d /\ c /\ d /\ a.snd.snd = (lpK p (gr p lv) D w m y).snd.snd /\ v /\ List.take (o - l).toNat a.snd.fst = w /\ d))))) /\ (¬f < i -> ∃ (y : Unit), (lpK p (gr p lv) D w m q).fst = false /\ (h = h /\ g) /\ d /\ d /\ c /\ d /\ e = (lpK p (gr p lv) D w m q).snd.snd /\ x)) ((a.snd.fst.length : Int))) (gr p lv j.toNat z e)) (inR .i64 (f + l) /\ d /\ ((∃ (y : Nat), (y = 0 /\ q - y < q - k) /\ (h = h /\ d /\ d /\ d /\ d /\ i = i /\ f + l = (y : Int) /\ d) /\ False /\ d /\ c /\ d /\ e = m /\ v /\ d) ∨ ∃ (y : Nat), (inS p (gr p lv) D w m y /\ q - y < q - k) /\ (h = h /\ d /\ d /\ d /\ d /\ i = i /\ f + l = (y : Int) /\ d) /\ d /\ d /\ c /\ d /\ e = (lpK p (gr p lv) D w m y).snd.snd /\ x))) (n = n /\ p = p /\ t = t /\ d)) (v /\ ([] : List Int) = w /\ d)) (d /\ g)) (d /\ d /\ d /\ d /\ d)) (True)) ((lpK p (gr p lv) D w m k).snd.snd)) ((0 : Int) <= f /\ f < bitsOf .i64)) (w ++ f :: w)) ((k : Int))) (bOr .i64 h (l * s))) ((D : Int))) ((q : Int))) ((1 : Int))) (p.length)) (gr p (lv + 1) D w m)) ((2 : Int) ^ k)) (mk (isF p))) ([])) (by kernel_rfl) ?_
   simp only [zz]
   obtain ⟨k1, k2⟩ := hk
   have hl : lv + 1 = p.length := by have := hp.l; simpa using this
   have hc := hp.h.2.1
   have hD := pre_D hp
   refine ⟨fun h => ?_, fun h => by rw [show p.length = k by omega]; exact ⟨k2, rfl⟩⟩
   have hkp : k < p.length := by omega
   have hb := or_pow10 hD (k := k) (by omega)
   have hst := lpK_go k2
   rw [bit_shr hD, hb.1, Int.toNat_natCast]
   have hskip : (D / 2 ^ k % 2 = 1 ∨ flw p D k = false) -> inR .i64 ((k : Int) + 1) /\ ∃ y : Nat, (inS p (gr p lv) D [] m y /\ p.length - y < p.length - k) /\ (k : Int) + 1 = (y : Int) /\ (lpK p (gr p lv) D [] m k).2.2 = (lpK p (gr p lv) D [] m y).2.2 := fun hh => by
     rw [if_pos hh] at hst
     exact ⟨by simp only [inR]; omega, k + 1, ⟨⟨by omega, by rw [hst]; exact k2⟩, by omega⟩, by omega, by rw [hst]⟩
   refine ⟨by simp only [inR]; omega, ⟨by omega, by simp only [bitsOf]; omega⟩, fun hx => hskip (.inl (by omega)), fun hx => ⟨⟨⟨hp.h, rfl⟩, ⟨by simp only; omega, by simp only; omega⟩, ⟨by simp only; omega, by simp only; omega⟩⟩, fun hx2 => hskip (.inr (by simpa using hx2)), fun hx2 => ?_⟩⟩
   have hx2 : flw p D k = true := by simpa using hx2
   rw [if_neg (by simp [hx2]; omega)] at hst
   have hlt : D ||| 2 ^ k < 2 ^ p.length := Nat.or_lt_two_pow hp.D (Nat.pow_lt_pow_right (by decide) hkp)
   have hpre : pre55 n p lv (D ||| 2 ^ k) ([] ++ [(k : Int)]) := ⟨hp.h, hlt, by simp; omega⟩
   refine ⟨by unfold sumPre; simp, by simp only [inR]; omega, ⟨⟨by omega, by simp only [bitsOf]; omega⟩, by omega, by omega⟩, ⟨⟨hp.h, rfl⟩, by simp only; omega, hpre⟩, fun hr => ?_, fun hr => ?_⟩
   · have hr : (gr p lv (D ||| 2 ^ k) ([] ++ [(k : Int)]) (lpK p (gr p lv) D [] m k).2.2).1 = true := hr
     rw [if_pos hr] at hst
     have hs := lpK_stop (k := k + 1) (by rw [hst]; exact hr) (p.length - (k + 1))
     rw [show k + 1 + (p.length - (k + 1)) = p.length by omega, hst] at hs
     have e : gr p (lv + 1) D [] m = gr p lv (D ||| 2 ^ k) ([] ++ [(k : Int)]) (lpK p (gr p lv) D [] m k).2.2 := by rw [gr, if_neg hm, hs, if_pos hr]
     rw [e]
     exact ⟨hr.symm, rfl, rfl⟩
   · have hr : (gr p lv (D ||| 2 ^ k) ([] ++ [(k : Int)]) (lpK p (gr p lv) D [] m k).2.2).1 = false := hr
     rw [if_neg (by rw [hr]; simp)] at hst
     have h2 := gr_list hr
     have q1 : inR .i64 (((gr p lv (D ||| 2 ^ k) ([] ++ [(k : Int)]) (lpK p (gr p lv) D [] m k).2.2).2.1.length : Int) - 1) := by rw [h2]; simp only [inR]; simp
     have q2 : 0 <= ((gr p lv (D ||| 2 ^ k) ([] ++ [(k : Int)]) (lpK p (gr p lv) D [] m k).2.2).2.1.length : Int) - 1 /\ ((gr p lv (D ||| 2 ^ k) ([] ++ [(k : Int)]) (lpK p (gr p lv) D [] m k).2.2).2.1.length : Int) - 1 <= ((gr p lv (D ||| 2 ^ k) ([] ++ [(k : Int)]) (lpK p (gr p lv) D [] m k).2.2).2.1.length : Int) := by rw [h2]; simp
     have q3 : (gr p lv (D ||| 2 ^ k) ([] ++ [(k : Int)]) (lpK p (gr p lv) D [] m k).2.2).2.1.take (((gr p lv (D ||| 2 ^ k) ([] ++ [(k : Int)]) (lpK p (gr p lv) D [] m k).2.2).2.1.length : Int) - 1).toNat = [] := by rw [h2]; simp
     have q4 : (gr p lv (D ||| 2 ^ k) ([] ++ [(k : Int)]) (lpK p (gr p lv) D [] m k).2.2).2.2 = (lpK p (gr p lv) D [] m (k + 1)).2.2 := by rw [hst]
     exact ⟨q1, q2, by simp only [inR]; omega, k + 1, ⟨⟨by omega, by rw [hst]⟩, by omega⟩, by omega, q4, q3⟩
theorem call55 (lv : Nat) (n : Int) (p : List Int) (D : Nat) (m : Mm) (hp : pre55 n p (lv + 1) D []) (hD0 : D = 0) (hm : ¬ mg m D = true) : GCall Try.prog gl 55 false (aN D) (gN n p m) [.bool (gr p (lv + 1) D [] m).1] (gO n p (gr p (lv + 1) D [] m).2.1 (gr p (lv + 1) D [] m).2.2) := by
 refine gcall_of (X := (XN lv)) ((Xb_ok _ _ _ _)) (f := 55) (fn := Try.f55) (c := bodyOf Try.f55) (by kernel_rfl) (by kernel_rfl) (view := false) (rvs := [.tmp 6]) (by kernel_rfl) (H := (HN n p (gr p lv) D m)) 80 (by kernel_rfl) ?_
 have hL := loopN lv n p D m hp hD0 hm
 refine of_eq (q := (fun (h : Res) => (fun (f : Int) => (fun (e : Int) => (fun (c : Prop) => (fun (d : Prop) => (fun (b : Res) => (fun (a : Prop) => (fun (g : Prop) => c /\ c /\ c /\ c /\ c /\ c /\ c /\ c /\ c /\ ((0 : Int) = f -> c /\ c /\ (true = b.fst /\ c) /\ g) /\ (¬(0 : Int) = f -> c /\ c /\ c /\ ((mGet I64 m e).getD false = true -> c /\ c /\ (false = b.fst /\ c) /\ g) /\ ((mGet I64 m e).getD false = false -> c /\ c /\ c /\ c /\ c /\ c /\ LoopOK (XN lv) L55_0 (hN n p (gr p lv) D m) (RetR (XN lv) false false [ResultVar.tmp (6 : Tmp)] [AV.bool b.fst] (gO n p b.snd.fst b.snd.snd)) /\ ((∃ (y : Nat), y = 0 /\ (e = e /\ c /\ c /\ c /\ c /\ f = (p.length : Int) /\ (0 : Int) = (y : Int) /\ c) /\ c /\ c /\ a /\ c /\ m = m /\ d /\ c) ∨ ∃ (y : Nat), inS p (gr p lv) D [] m y /\ (e = e /\ c /\ c /\ c /\ c /\ f = (p.length : Int) /\ (0 : Int) = (y : Int) /\ c) /\ False /\ c /\ a /\ c /\ m = (lpK p (gr p lv) D [] m y).snd.snd /\ d /\ False) /\ (∀ (y : Unit), h.fst = false -> c /\ c /\ c /\ c /\ c /\ (false = b.fst /\ c) /\ c /\ c /\ a /\ c /\ mPut I64 h.snd.snd e true = b.snd.snd /\ d /\ ([] : List Int) = b.snd.fst /\ c) /\ c))) (False /\ c /\ a /\ c /\ m = b.snd.snd /\ d /\ False)) (n = n /\ p = p /\ mk (isF p) = mk (isF p) /\ c)) (gr p (lv + 1) D [] m)) (c /\ c /\ c /\ c /\ c /\ c)) (True)) ((D : Int))) ((p.length : Int))) (lpK p (gr p lv) D [] m p.length)) (by kernel_rfl) ?_
 simp only [zz]
 have hl : lv + 1 = p.length := by have := hp.l; simpa using this
 have hg : mg m D = (mGet I64 m D).getD false := rfl
 refine ⟨fun h => by omega, fun _ => ⟨fun h => hm (by rw [hg]; exact h), fun h => ⟨hL, ⟨0, rfl, rfl⟩, fun _ hf => ?_⟩⟩⟩
 rw [gr, if_neg hm, if_neg (by simp [hf])]; exact ⟨rfl, rfl, rfl⟩
end Go.Am.Sh

/- Shells: Shell. -/
namespace Go.Am.Sh
open Go Go.Am Go.Proofs
def isNl : Ob -> Bool
 | .bx (.vv _) => true
 | _ => false
abbrev G5n := Int × Cx3 × Mm
def get55n (xs : List AV) (obs : List Ob) : Option G5n :=
 match xs with
 | .int .i64 d :: _ => (match isNl (obs.getD 0 .gone), unCx (obs.getD 2 .gone), unMm (obs.getD 4 .gone) with
   | true, some x, some m => some (d, x, m)
   | _, _, _ => none)
 | _ => none
structure ok55n (x : G5n) : Prop where
 h : okC x.2.1
 d : x.1 = 0
 m : x.2.2 = []
def gNq (x : Cx3) (m : Mm) : List Ob := [.bx nl, .bx (.ptr 2 0 []), cxQ x, .bx (.mp 4), mmO m, .bx (clo55 0 1 3 5)]
def gOq (x : Cx3) (l : List Int) (m : Mm) : List Ob := [.bx (.own 6 0), .bx (.ptr 2 0 []), cxQ x, .bx (.mp 4), mmO m, .bx (clo55 0 1 3 5), .sc 0 3 I64 l]
def grow (p : List Int) : Res := gr p p.length 0 [] []
theorem call55N (n : Int) (p : List Int) (h : cxOk n p) : GCall Try.prog gl 55 false (aN 0) (gN n p []) [.bool (grow p).1] (gO n p (grow p).2.1 (grow p).2.2) := by
 have hl := h.2.1.1
 obtain ⟨lv, hlv⟩ : ∃ lv, p.length = lv + 1 := ⟨p.length - 1, by omega⟩
 have := call55 lv n p 0 [] ⟨h, by have := Nat.pow_le_pow_right (show 0 < 2 by decide) hl; omega, by simp; omega⟩ rfl (by simp [mg, mGet])
 rw [<- hlv] at this
 exact this
def e55N : Entry Try.prog gl := entryW 55 ⟨Try.f55, by kernel_rfl, by kernel_rfl, by kernel_rfl⟩ true get55n ok55n false (fun x => aN x.1) (fun x => gNq x.2.1 x.2.2) (fun x => [.bool (grow x.2.1.2.1).1])
 (fun x => gOq x.2.1 (grow x.2.1.2.1).2.1 (grow x.2.1.2.1).2.2) (fun x hx => by
   have := call55N _ _ hx.h.h
   have e : gNq x.2.1 [] = gN x.2.1.1 x.2.1.2.1 [] := by unfold gNq gN; rw [cxQ_ok hx.h]
   have e2 : ∀ l m, gOq x.2.1 l m = gO x.2.1.1 x.2.1.2.1 l m := fun l m => by unfold gOq gO; rw [cxQ_ok hx.h]
   rw [hx.d, hx.m, e, e2]; exact this)
def shB (p : List Int) : Bool := pure p && (grow p).1
def shL (p : List Int) : List Int := if pure p = true then (grow p).2.1 else []
theorem call15 (n : Int) (p : List Int) (h : cxOk n p) : GCall Try.prog gl 15 true [.int .i64 n, .sl I64 p] [] [.sl I64 (shL p), .bool (shB p), .int .i64 0] [] := by
 refine gcall_of (X := X [e53, e54, e55N]) (X_ok [e53, e54, e55N]) (f := 15) (fn := Try.f15) (c := bodyOf Try.f15) (by kernel_rfl) (by kernel_rfl) (view := true) (rvs := [.tmp 4, .tmp 5, .tmp 6]) (by kernel_rfl) (H := fun _ => none) 80 (by kernel_rfl) ?_
 refine of_eq (q := (fun (d : Prop) => (fun (b : List Bool) => (fun (a : Prop) => (fun (f : Prop) => (fun (e : Prop) => (fun (c : Prop) => a /\ a /\ a /\ a /\ a /\ (CxP n p /\ a) /\ a /\ a /\ a /\ a /\ a /\ a /\ a /\ a /\ (¬d -> a /\ c) /\ (¬¬d -> a /\ ((okC (n, p, b) /\ (a /\ a) /\ f /\ a) /\ a /\ a) /\ a /\ ((!pure p) = true -> c) /\ ((!pure p) = false -> a /\ a /\ a /\ a /\ a /\ a /\ a /\ a /\ ((ok55n ((0 : Int), (n, p, b), []) /\ (d /\ e) /\ a /\ a /\ f /\ a /\ ([] : List (Int × Bool)) = [] /\ (a /\ e) /\ a) /\ a /\ a /\ e) /\ a /\ a /\ a /\ a /\ a /\ a /\ a /\ ((grow p).snd.fst = shL p /\ (grow p).fst = shB p /\ d /\ a) /\ a))) (a /\ a /\ a /\ a /\ (([] : List Int) = shL p /\ false = shB p /\ d /\ a) /\ a)) (a /\ a /\ a /\ a /\ a)) (n = n /\ p = p /\ b = b /\ a)) (True)) (mk (isF p))) ((0 : Int) = 0)) (by kernel_rfl) ?_
 simp only [zz]
 refine ⟨⟨h⟩, fun h => absurd trivial h, fun _ => ⟨⟨h, rfl⟩, fun hp => ?_, fun hp => ⟨⟨⟨h, rfl⟩, rfl, rfl⟩, ?_⟩⟩⟩
 · have hp : pure p = false := by simpa using hp
   simp [shL, shB, hp]
 · have hp : pure p = true := by simpa using hp
   simp [shL, shB, hp]
end Go.Am.Sh

/- Shells: awake. -/
namespace Go.Am.Sh
open Go Go.Am Go.Proofs
def e15 : Entry Try.prog gl := entry2 15 ⟨Try.f15, by kernel_rfl, by kernel_rfl, by kernel_rfl⟩ I64 SI (fun (n : Int) p => cxOk n p) true (fun _ p => [.sl I64 (shL p), .bool (shB p), .int .i64 0]) (fun _ _ => []) (fun (n : Int) p h => call15 n p h)
def e38 : Entry Try.prog gl := entry2 38 ⟨Try.f38, by kernel_rfl, by kernel_rfl, by kernel_rfl⟩ I64 SI (fun (n : Int) p => cxOk n p) false (fun _ p => [.sl I64 (cnts p), .int .i64 0]) (fun _ _ => []) (fun (n : Int) p h => call38 n p h)
def e27 : Entry Try.prog gl := entry2 27 ⟨Try.f27, by kernel_rfl, by kernel_rfl, by kernel_rfl⟩ I64 SI (fun (n : Int) p => cxOk n p) false (fun _ p => [.sl I64 (hsL p), .int .i64 0]) (fun _ _ => []) (fun (n : Int) p h => call27 n p h)
def e30 : Entry Try.prog gl := entry2 30 ⟨Try.f30, by kernel_rfl, by kernel_rfl, by kernel_rfl⟩ I64 SI (fun (n : Int) p => cxOk n p) false (fun _ p => [.sl I64 (hoL p), .int .i64 0]) (fun _ _ => []) (fun (n : Int) p h => call30 n p h)
def e36 : Entry Try.prog gl := entry2 36 ⟨Try.f36, by kernel_rfl, by kernel_rfl, by kernel_rfl⟩ I64 SI (fun (n : Int) p => cxOk n p) false (fun (n : Int) p => [.sl I64 (fewR (grL (duaG n p))), .int .i64 (fewE (grL (duaG n p)))]) (fun _ _ => []) (fun (n : Int) p h => call36 n p h)
def e24 : Entry Try.prog gl := entry2 24 ⟨Try.f24, by kernel_rfl, by kernel_rfl, by kernel_rfl⟩ I64 I64 (fun (n d : Int) => momOk n d) true (fun (n d : Int) => [.sl I64 (momL n d), .int .i64 0]) (fun _ _ => []) (fun (n d : Int) h => call24 n d h)
def e39 : Entry Try.prog gl := entry2 39 ⟨Try.f39, by kernel_rfl, by kernel_rfl, by kernel_rfl⟩ I64 SI (fun (n : Int) p => cxOk n p) true (fun _ p => [.int .i64 (eulN (isF p) 64), .int .i64 0]) (fun _ _ => []) (fun (n : Int) p h => call39 n p h)
instance (n : Int) (p : List Int) (k : Nat) : Decidable (goodAt n p k) := by unfold goodAt; infer_instance
instance (n : Int) (p : List Int) : Decidable (cxOk n p) := by unfold cxOk numOk; infer_instance
theorem call19 : GCall Try.prog gl 19 true [] [] [.tt] [] := by
 have f1 : cxOk 3 [3, 5, 6] := by decide +kernel
 have f2 : cxOk 3 [7] := by decide +kernel
 have f3 : cxOk 4 [3, 12] := by decide +kernel
 have f4 : cnts [3, 5, 6] = [1, 3, 3] := by kernel_rfl
 have f5 : hsL [3, 5, 6] = [1, 1, 1] := by kernel_rfl
 have f6 : hoL [3, 5, 6] = [0, 1] := by kernel_rfl
 have f7 : shL [7] = [0] := by kernel_rfl
 have f8 : fewR (grL (duaG 4 [3, 12])) = [5, 6, 9, 10] := by kernel_rfl
 have f9 : fewE (grL (duaG 4 [3, 12])) = 0 := by kernel_rfl
 refine gcall_of (X := X [e38, e27, e30, e15, e36, e24, e23]) (X_ok [e38, e27, e30, e15, e36, e24, e23]) (f := 19) (fn := Try.f19) (c := bodyOf Try.f19) (by kernel_rfl) (by kernel_rfl) (view := false) (rvs := [.tmp 0]) (by kernel_rfl) (H := fun _ => none) 200 (by kernel_rfl) ?_
 refine of_eq (q := True /\ True /\ ((numOk (3 : Int) /\ ((1 : Nat) <= [(3 : Int), (5 : Int), (6 : Int)].length /\ [(3 : Int), (5 : Int), (6 : Int)].length <= 10) /\ ∀ (k : Nat), k < [(3 : Int), (5 : Int), (6 : Int)].length -> goodAt (3 : Int) [(3 : Int), (5 : Int), (6 : Int)] k) /\ True) /\ True /\ True /\ True /\ True /\ True /\ True /\ ((numOk (3 : Int) /\ ((1 : Nat) <= [(3 : Int), (5 : Int), (6 : Int)].length /\ [(3 : Int), (5 : Int), (6 : Int)].length <= 10) /\ ∀ (k : Nat), k < [(3 : Int), (5 : Int), (6 : Int)].length -> goodAt (3 : Int) [(3 : Int), (5 : Int), (6 : Int)] k) /\ True) /\ True /\ True /\ True /\ True /\ True /\ True /\ ((numOk (3 : Int) /\ ((1 : Nat) <= [(3 : Int), (5 : Int), (6 : Int)].length /\ [(3 : Int), (5 : Int), (6 : Int)].length <= 10) /\ ∀ (k : Nat), k < [(3 : Int), (5 : Int), (6 : Int)].length -> goodAt (3 : Int) [(3 : Int), (5 : Int), (6 : Int)] k) /\ True) /\ True /\ True /\ True /\ True /\ True /\ True /\ ((numOk (3 : Int) /\ ((1 : Nat) <= [(7 : Int)].length /\ [(7 : Int)].length <= 10) /\ ∀ (k : Nat), k < [(7 : Int)].length -> goodAt (3 : Int) [(7 : Int)] k) /\ True) /\ True /\ True /\ True /\ True /\ True /\ True /\ True /\ True /\ ((numOk (4 : Int) /\ ((1 : Nat) <= [(3 : Int), (12 : Int)].length /\ [(3 : Int), (12 : Int)].length <= 10) /\ ∀ (k : Nat), k < [(3 : Int), (12 : Int)].length -> goodAt (4 : Int) [(3 : Int), (12 : Int)] k) /\ True) /\ True /\ True /\ True /\ True /\ True /\ (((2 : Int) <= 3 /\ (3 : Int) < 5 /\ (5 : Int) <= 6) /\ True) /\ True /\ True /\ True /\ True /\ True /\ True /\ True /\ True /\ ((0 : Int) = 0 -> True /\ True /\ ((cnts [(3 : Int), (5 : Int), (6 : Int)]).length + 1 <= 1000000000000000 /\ True) /\ True /\ True /\ (true = true -> True /\ True /\ True /\ True /\ ((0 : Int) = 0 -> True /\ True /\ ((hsL [(3 : Int), (5 : Int), (6 : Int)]).length + 1 <= 1000000000000000 /\ True) /\ True /\ True /\ (true = true -> True /\ True /\ True /\ True /\ ((0 : Int) = 0 -> True /\ True /\ ((hoL [(3 : Int), (5 : Int), (6 : Int)]).length + 1 <= 1000000000000000 /\ True) /\ True /\ True /\ (true = true -> True /\ True /\ True /\ True /\ ((0 : Int) = 0 -> True /\ True /\ True /\ (true = true -> True /\ True /\ ((shL [(7 : Int)]).length + 1 <= 1000000000000000 /\ True) /\ True /\ True /\ (true = true -> True /\ True /\ True /\ True /\ (fewE (grL (duaG (4 : Int) [(3 : Int), (12 : Int)])) = 0 -> True /\ True /\ ((fewR (grL (duaG (4 : Int) [(3 : Int), (12 : Int)]))).length + 1 <= 1000000000000000 /\ True) /\ True /\ True /\ (true = true -> True /\ True /\ True /\ True /\ ((0 : Int) = 0 -> True /\ True /\ True /\ True /\ True /\ True /\ (true = true /\ True) /\ True) /\ (¬(0 : Int) = 0 -> True /\ True /\ True /\ (false = true /\ True) /\ True)) /\ (true = false -> True /\ True /\ True /\ True /\ True /\ (false = true /\ True) /\ True)) /\ (¬fewE (grL (duaG (4 : Int) [(3 : Int), (12 : Int)])) = 0 -> True /\ True /\ True /\ True /\ True /\ True /\ True /\ (false = true /\ True) /\ True)) /\ (true = false -> True /\ True /\ True /\ True /\ True /\ True /\ True /\ True /\ True /\ (false = true /\ True) /\ True)) /\ (true = false -> True /\ True /\ True /\ True /\ True /\ True /\ True /\ True /\ True /\ True /\ True /\ (false = true /\ True) /\ True)) /\ (¬(0 : Int) = 0 -> True /\ True /\ True /\ True /\ True /\ True /\ True /\ True /\ True /\ True /\ True /\ True /\ True /\ (false = true /\ True) /\ True)) /\ (true = false -> True /\ True /\ True /\ True /\ True /\ True /\ True /\ True /\ True /\ True /\ True /\ True /\ True /\ True /\ True /\ (false = true /\ True) /\ True)) /\ (¬(0 : Int) = 0 -> True /\ True /\ True /\ True /\ True /\ True /\ True /\ True /\ True /\ True /\ True /\ True /\ True /\ True /\ True /\ True /\ True /\ (false = true /\ True) /\ True)) /\ (true = false -> True /\ True /\ True /\ True /\ True /\ True /\ True /\ True /\ True /\ True /\ True /\ True /\ True /\ True /\ True /\ True /\ True /\ True /\ True /\ (false = true /\ True) /\ True)) /\ (¬(0 : Int) = 0 -> True /\ True /\ True /\ True /\ True /\ True /\ True /\ True /\ True /\ True /\ True /\ True /\ True /\ True /\ True /\ True /\ True /\ True /\ True /\ True /\ True /\ (false = true /\ True) /\ True)) /\ (true = false -> True /\ True /\ True /\ True /\ True /\ True /\ True /\ True /\ True /\ True /\ True /\ True /\ True /\ True /\ True /\ True /\ True /\ True /\ True /\ True /\ True /\ True /\ True /\ (false = true /\ True) /\ True)) /\ (¬(0 : Int) = 0 -> True /\ True /\ True /\ True /\ True /\ True /\ True /\ True /\ True /\ True /\ True /\ True /\ True /\ True /\ True /\ True /\ True /\ True /\ True /\ True /\ True /\ True /\ True /\ True /\ True /\ (false = true /\ True) /\ True)) (by kernel_rfl) ?_
 rw [f4, f5, f6, f7, f8, f9]
 simp
 exact ⟨⟨f1.1, f1.2.2⟩, ⟨f2.1, f2.2.2 0 (by decide)⟩, f3.1, f3.2.2⟩
def e19 : Entry Try.prog gl where
 f := 19
 lend := false
 en := ⟨Try.f19, by kernel_rfl, by kernel_rfl, by kernel_rfl⟩
 go := fun args ob0 => match args, ob0 with
   | [], [] => some (True, true, [.tt], [])
   | _, _ => none
 ok := by
   intro args ob0 p s r o h hp
   split at h <;> try (cases h; done)
   injection h with h; injection h with h1 h2; injection h2 with h2 h3; injection h3 with h3 h4
   subst h1 h2 h3 h4
   exact call19
end Go.Am.Sh

/- Shells: the reference's shellings. -/
namespace Go.Am.Sh
open Go Go.Am Go.Proofs
def puN (p : List Int) (k : Nat) : Prop := ∀ i, i < k -> pc (p.getD i 0).toNat = pc (p.getD 0 0).toNat
instance (p k) : Decidable (puN p k) := by unfold puN; infer_instance
def puB (p : List Int) : Bool := decide (puN p p.length)
structure ok10 (p : List Int) : Prop where
 h : okL p
 l : p.length <= 10
def fnd (p : List Int) (D s e : Nat) : Nat -> Bool
 | 0 => false
 | g + 1 => fnd p D s e g || (decide (D / 2 ^ g % 2 = 1) && decide (pc (mns s (p.getD g 0).toNat) = 1) && decide (mns s (p.getD g 0).toNat &&& e = 0))
def nxN (p : List Int) (D i k : Nat) : Prop := ∀ e, e < k -> D / 2 ^ e % 2 = 1 -> fnd p D (p.getD i 0).toNat (p.getD e 0).toNat p.length = true
instance (p D i k) : Decidable (nxN p D i k) := by unfold nxN; infer_instance
def nxB (p : List Int) (D i : Nat) : Bool := decide (nxN p D i p.length)
structure ok57 (p : List Int) (D i : Int) : Prop where
 h : ok10 p
 D : 0 <= D /\ D < 1024
 i : 0 <= i /\ i < p.length
def sgB (p : List Int) (i : Int) : Bool := decide (0 <= i /\ i < p.length)
/-- The set of the first k pieces of an order, if they are a shelling so far. -/
def sgK (p o : List Int) : Nat -> Option Nat
 | 0 => some 0
 | k + 1 => (sgK p o k).bind fun D => if sgB p (o.getD k 0) = true /\ D / 2 ^ (o.getD k 0).toNat % 2 = 0 /\ nxB p D (o.getD k 0).toNat = true then some (D ||| 2 ^ (o.getD k 0).toNat) else none
def sgR (p o : List Int) : Bool := (sgK p o o.length).isSome && decide (o.length = p.length) && puB p
end Go.Am.Sh

/- Shells: the reference's Check. -/
namespace Go.Am.Sh
open Go Go.Am Go.Proofs
theorem pow_le6 {n : Int} (h : numOk n) : (2 ^ n.toNat : Int) <= 64 := by
 obtain ⟨e1, e2, e3⟩ := numOk_pow h
 omega
theorem sub_and {a b : Int} (ha : 0 <= a /\ a < 64) (hb : 0 <= b /\ b < 64) : (bAnd .i64 a b = a) ↔ sub a.toNat b.toNat = true := by
 have : bAnd .i64 a b = ((a.toNat &&& b.toNat : Nat) : Int) := by rw [<- bAnd_nat (by omega) (by omega), Int.toNat_of_nonneg ha.1, Int.toNat_of_nonneg hb.1]
 rw [this]
 unfold sub
 constructor
 · intro h
   have : a.toNat &&& b.toNat = a.toNat := by omega
   rw [this]; exact Nat.beq_refl _
 · intro h
   have := Nat.eq_of_beq_eq_true h
   omega
end Go.Am.Sh

/- Shells: the law of the moment complexes. -/
namespace Go.Am.Sh
open Go Go.Am Go.Proofs
/-- How many of a list have all of a set. -/
def cntM (x : Nat) (p : List Int) (j : Nat) : Nat := ((p.take j).filter fun s => decide (mns x s.toNat = 0)).length
structure mf (n d : Int) : Prop where
 m : momOk n d
 len : 1 <= (momL n d).length /\ (momL n d).length <= 10
 cx : cxOk n (momL n d)
 hl : ((hsL (momL n d)).length : Int) = d + 1
 hs : ∀ k, k < d.toNat + 1 -> (hsL (momL n d)).getD k 0 = (hsL (momL n d)).getD (d.toNat - k) 0
 sh : shB (momL n d) = true
 sg : sgR (momL n d) (shL (momL n d)) = true
 sl : (shL (momL n d)).length <= 10
 two : ∀ k, k < (fcs (momL n d)).length -> (pc ((fcs (momL n d)).getD k 0).toNat : Int) = d - 1 -> cntM ((fcs (momL n d)).getD k 0).toNat (momL n d) (momL n d).length = 2
instance (n d : Int) : Decidable (momOk n d) := by unfold momOk; infer_instance
theorem u64_nn (n : Int) : 0 <= modU .u64 n := by
 show 0 <= n % 18446744073709551616
 omega
end Go.Am.Sh
