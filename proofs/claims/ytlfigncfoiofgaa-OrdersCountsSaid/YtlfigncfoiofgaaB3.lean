/- Part B3 of the proof that the law named in the last file returns true at every input and leaves its arguments as they were; no condition of its own. -/
import Derived.Test.YtlfigncfoiofgaaA2
import Derived.Test.YtlfigncfoiofgaaProg
import Derived.KernelRfl
set_option linter.unusedSimpArgs false
set_option linter.unusedVariables false
/- Orders: the program's types. Printed by tytab.py, beside the head. -/
namespace Go.Am.Or
open Go Go.Am Go.Proofs
def AllOk (P : Program) : Nat → List (Option TI) → Prop
 | _, [] => True
 | i, none :: l => AllOk P (i + 1) l
 | i, some ti :: l => TI.Ok P i ti ∧ AllOk P (i + 1) l
theorem AllOk.get {P : Program} : ∀ {l : List (Option TI)} {i j : Nat} {ti : TI}, AllOk P i l → l[j]? = some (some ti) → TI.Ok P (i + j) ti
 | [], i, j, ti, _, h => by simp at h
 | none :: l, i, 0, ti, _, h => by simp at h
 | some t :: l, i, 0, ti, h, hj => by simp at hj; subst hj; exact h.1
 | none :: l, i, j + 1, ti, h, hj => by
   have := AllOk.get (l := l) (i := i + 1) (j := j) h (by simpa using hj)
   rwa [show i + (j + 1) = i + 1 + j by omega]
 | some t :: l, i, j + 1, ti, h, hj => by
   have := AllOk.get (l := l) (i := i + 1) (j := j) h.2 (by simpa using hj)
   rwa [show i + (j + 1) = i + 1 + j by omega]
def ti1 : TI := ⟨.oth, 1, 8, Value.nilFunc, .vv .nilFunc, .bool, false, false⟩
theorem ti1_ok : TI.Ok Try.prog 1 ti1 := ⟨by kernel_rfl, by kernel_rfl, by kernel_rfl, by kernel_rfl, by kernel_rfl, by kernel_rfl, (fun h => nomatch h), (fun h => nomatch h)⟩
def ti3 : TI := ⟨.int .i64, 1, 8, Value.int IntKind.i64 0, .int .i64 0, .int .i64, true, true⟩
theorem ti3_ok : TI.Ok Try.prog 3 ti3 := ⟨by kernel_rfl, by kernel_rfl, by kernel_rfl, by kernel_rfl, by kernel_rfl, by kernel_rfl, fun _ => by kernel_rfl, fun _ => by kernel_rfl⟩
def ti4 : TI := ⟨.bool, 1, 1, Value.bool false, .ff, .bool, true, true⟩
theorem ti4_ok : TI.Ok Try.prog 4 ti4 := ⟨by kernel_rfl, by kernel_rfl, by kernel_rfl, by kernel_rfl, by kernel_rfl, by kernel_rfl, fun _ => by kernel_rfl, fun _ => by kernel_rfl⟩
def ti22 : TI := ⟨.sl 52, 1, 24, Value.slice none 0 0, .vv (.slice none 0 0), .sl (.a2 (.int .i64)), true, false⟩
theorem ti22_ok : TI.Ok Try.prog 22 ti22 := ⟨by kernel_rfl, by kernel_rfl, by kernel_rfl, by kernel_rfl, by kernel_rfl, by kernel_rfl, fun _ => by kernel_rfl, (fun h => nomatch h)⟩
def ti25 : TI := ⟨.int .i64, 1, 8, Value.int IntKind.i64 0, .int .i64 0, .int .i64, true, true⟩
theorem ti25_ok : TI.Ok Try.prog 25 ti25 := ⟨by kernel_rfl, by kernel_rfl, by kernel_rfl, by kernel_rfl, by kernel_rfl, by kernel_rfl, fun _ => by kernel_rfl, fun _ => by kernel_rfl⟩
def ti31 : TI := ⟨.sl 3, 1, 24, Value.slice none 0 0, .vv (.slice none 0 0), .sl (.int .i64), true, false⟩
theorem ti31_ok : TI.Ok Try.prog 31 ti31 := ⟨by kernel_rfl, by kernel_rfl, by kernel_rfl, by kernel_rfl, by kernel_rfl, by kernel_rfl, fun _ => by kernel_rfl, (fun h => nomatch h)⟩
def ti32 : TI := ⟨.ar 2 31, 2, 48, Value.agg #[Value.slice none 0 0, Value.slice none 0 0], ofD (.a2 (.sl (.int .i64))) (Ty.dflt (.a2 (.sl (.int .i64)))), .a2 (.sl (.int .i64)), true, false⟩
theorem ti32_ok : TI.Ok Try.prog 32 ti32 := ⟨by kernel_rfl, by kernel_rfl, by kernel_rfl, by kernel_rfl, by kernel_rfl, by kernel_rfl, fun _ => by kernel_rfl, (fun h => nomatch h)⟩
def ti52 : TI := ⟨.ar 2 3, 2, 16, Value.agg #[Value.int IntKind.i64 0, Value.int IntKind.i64 0], ofD (.a2 (.int .i64)) (Ty.dflt (.a2 (.int .i64))), .a2 (.int .i64), true, true⟩
theorem ti52_ok : TI.Ok Try.prog 52 ti52 := ⟨by kernel_rfl, by kernel_rfl, by kernel_rfl, by kernel_rfl, by kernel_rfl, by kernel_rfl, fun _ => by kernel_rfl, fun _ => by kernel_rfl⟩
def ti57 : TI := ⟨.ar 2 52, 4, 32, Value.agg #[Value.int IntKind.i64 0, Value.int IntKind.i64 0, Value.int IntKind.i64 0, Value.int IntKind.i64 0], ofD (.a2 (.a2 (.int .i64))) (Ty.dflt (.a2 (.a2 (.int .i64)))), .a2 (.a2 (.int .i64)), true, true⟩
theorem ti57_ok : TI.Ok Try.prog 57 ti57 := ⟨by kernel_rfl, by kernel_rfl, by kernel_rfl, by kernel_rfl, by kernel_rfl, by kernel_rfl, fun _ => by kernel_rfl, fun _ => by kernel_rfl⟩
def ti63 : TI := ⟨.int .u64, 1, 8, Value.int IntKind.u64 0, .int .u64 0, .int .u64, true, true⟩
theorem ti63_ok : TI.Ok Try.prog 63 ti63 := ⟨by kernel_rfl, by kernel_rfl, by kernel_rfl, by kernel_rfl, by kernel_rfl, by kernel_rfl, fun _ => by kernel_rfl, fun _ => by kernel_rfl⟩
def ti65 : TI := ⟨.pt 87, 1, 8, Value.pointer none, .vv (.pointer none), .bool, false, false⟩
theorem ti65_ok : TI.Ok Try.prog 65 ti65 := ⟨by kernel_rfl, by kernel_rfl, by kernel_rfl, by kernel_rfl, by kernel_rfl, by kernel_rfl, (fun h => nomatch h), (fun h => nomatch h)⟩
def ti69 : TI := ⟨.ar 7 4, 7, 7, Value.agg #[Value.bool false, Value.bool false, Value.bool false, Value.bool false, Value.bool false, Value.bool false, Value.bool false], ofD (.ar 7 (.bool)) (Ty.dflt (.ar 7 (.bool))), .ar 7 (.bool), true, true⟩
theorem ti69_ok : TI.Ok Try.prog 69 ti69 := ⟨by kernel_rfl, by kernel_rfl, by kernel_rfl, by kernel_rfl, by kernel_rfl, by kernel_rfl, fun _ => by kernel_rfl, fun _ => by kernel_rfl⟩
def ti71 : TI := ⟨.ar 7 69, 49, 49, Value.agg #[Value.bool false, Value.bool false, Value.bool false, Value.bool false, Value.bool false, Value.bool false, Value.bool false, Value.bool false, Value.bool false, Value.bool false, Value.bool false, Value.bool false, Value.bool false, Value.bool false, Value.bool false, Value.bool false, Value.bool false, Value.bool false, Value.bool false, Value.bool false, Value.bool false, Value.bool false, Value.bool false, Value.bool false, Value.bool false, Value.bool false, Value.bool false, Value.bool false, Value.bool false, Value.bool false, Value.bool false, Value.bool false, Value.bool false, Value.bool false, Value.bool false, Value.bool false, Value.bool false, Value.bool false, Value.bool false, Value.bool false, Value.bool false, Value.bool false, Value.bool false, Value.bool false, Value.bool false, Value.bool false, Value.bool false, Value.bool false, Value.bool false], ofD (.ar 7 (.ar 7 (.bool))) (Ty.dflt (.ar 7 (.ar 7 (.bool)))), .ar 7 (.ar 7 (.bool)), true, true⟩
theorem ti71_ok : TI.Ok Try.prog 71 ti71 := ⟨by kernel_rfl, by kernel_rfl, by kernel_rfl, by kernel_rfl, by kernel_rfl, by kernel_rfl, fun _ => by kernel_rfl, fun _ => by kernel_rfl⟩
def ti72 : TI := ⟨.oth, 1, 8, Value.nilFunc, .vv .nilFunc, .bool, false, false⟩
theorem ti72_ok : TI.Ok Try.prog 72 ti72 := ⟨by kernel_rfl, by kernel_rfl, by kernel_rfl, by kernel_rfl, by kernel_rfl, by kernel_rfl, (fun h => nomatch h), (fun h => nomatch h)⟩
def ti87 : TI := ⟨.st [(0, 3), (1, 71)], 50, 64, Value.agg #[Value.int IntKind.i64 0, Value.bool false, Value.bool false, Value.bool false, Value.bool false, Value.bool false, Value.bool false, Value.bool false, Value.bool false, Value.bool false, Value.bool false, Value.bool false, Value.bool false, Value.bool false, Value.bool false, Value.bool false, Value.bool false, Value.bool false, Value.bool false, Value.bool false, Value.bool false, Value.bool false, Value.bool false, Value.bool false, Value.bool false, Value.bool false, Value.bool false, Value.bool false, Value.bool false, Value.bool false, Value.bool false, Value.bool false, Value.bool false, Value.bool false, Value.bool false, Value.bool false, Value.bool false, Value.bool false, Value.bool false, Value.bool false, Value.bool false, Value.bool false, Value.bool false, Value.bool false, Value.bool false, Value.bool false, Value.bool false, Value.bool false, Value.bool false, Value.bool false], .agg [.int .i64 0, ofD (.ar 7 (.ar 7 (.bool))) (Ty.dflt (.ar 7 (.ar 7 (.bool))))], .s2 (.int .i64) (.ar 7 (.ar 7 (.bool))), true, true⟩
theorem ti87_ok : TI.Ok Try.prog 87 ti87 := ⟨by kernel_rfl, by kernel_rfl, by kernel_rfl, by kernel_rfl, by kernel_rfl, by kernel_rfl, fun _ => by kernel_rfl, fun _ => by kernel_rfl⟩
def ti88 : TI := ⟨.sl 91, 1, 24, Value.slice none 0 0, .vv (.slice none 0 0), .sl (.s2 (.int .i64) (.int .i64)), true, false⟩
theorem ti88_ok : TI.Ok Try.prog 88 ti88 := ⟨by kernel_rfl, by kernel_rfl, by kernel_rfl, by kernel_rfl, by kernel_rfl, by kernel_rfl, fun _ => by kernel_rfl, (fun h => nomatch h)⟩
def ti91 : TI := ⟨.st [(0, 3), (1, 3)], 2, 16, Value.agg #[Value.int IntKind.i64 0, Value.int IntKind.i64 0], .agg [.int .i64 0, .int .i64 0], .s2 (.int .i64) (.int .i64), true, true⟩
theorem ti91_ok : TI.Ok Try.prog 91 ti91 := ⟨by kernel_rfl, by kernel_rfl, by kernel_rfl, by kernel_rfl, by kernel_rfl, by kernel_rfl, fun _ => by kernel_rfl, fun _ => by kernel_rfl⟩
def ti92 : TI := ⟨.mp 91 91, 1, 8, Value.map none, .vv (.map none), .bool, false, false⟩
theorem ti92_ok : TI.Ok Try.prog 92 ti92 := ⟨by kernel_rfl, by kernel_rfl, by kernel_rfl, by kernel_rfl, by kernel_rfl, by kernel_rfl, (fun h => nomatch h), (fun h => nomatch h)⟩
def ti100 : TI := ⟨.oth, 1, 8, Value.nilFunc, .vv .nilFunc, .bool, false, false⟩
theorem ti100_ok : TI.Ok Try.prog 100 ti100 := ⟨by kernel_rfl, by kernel_rfl, by kernel_rfl, by kernel_rfl, by kernel_rfl, by kernel_rfl, (fun h => nomatch h), (fun h => nomatch h)⟩
def ti101 : TI := ⟨.oth, 1, 8, Value.nilFunc, .vv .nilFunc, .bool, false, false⟩
theorem ti101_ok : TI.Ok Try.prog 101 ti101 := ⟨by kernel_rfl, by kernel_rfl, by kernel_rfl, by kernel_rfl, by kernel_rfl, by kernel_rfl, (fun h => nomatch h), (fun h => nomatch h)⟩
def ti102 : TI := ⟨.oth, 1, 8, Value.nilFunc, .vv .nilFunc, .bool, false, false⟩
theorem ti102_ok : TI.Ok Try.prog 102 ti102 := ⟨by kernel_rfl, by kernel_rfl, by kernel_rfl, by kernel_rfl, by kernel_rfl, by kernel_rfl, (fun h => nomatch h), (fun h => nomatch h)⟩
def ti110 : TI := ⟨.mp 91 4, 1, 8, Value.map none, .vv (.map none), .bool, false, false⟩
theorem ti110_ok : TI.Ok Try.prog 110 ti110 := ⟨by kernel_rfl, by kernel_rfl, by kernel_rfl, by kernel_rfl, by kernel_rfl, by kernel_rfl, (fun h => nomatch h), (fun h => nomatch h)⟩
def ti111 : TI := ⟨.mp 52 3, 1, 8, Value.map none, .vv (.map none), .bool, false, false⟩
theorem ti111_ok : TI.Ok Try.prog 111 ti111 := ⟨by kernel_rfl, by kernel_rfl, by kernel_rfl, by kernel_rfl, by kernel_rfl, by kernel_rfl, (fun h => nomatch h), (fun h => nomatch h)⟩
def ti114 : TI := ⟨.sl 71, 1, 24, Value.slice none 0 0, .vv (.slice none 0 0), .sl (.ar 7 (.ar 7 (.bool))), true, false⟩
theorem ti114_ok : TI.Ok Try.prog 114 ti114 := ⟨by kernel_rfl, by kernel_rfl, by kernel_rfl, by kernel_rfl, by kernel_rfl, by kernel_rfl, fun _ => by kernel_rfl, (fun h => nomatch h)⟩
def ti117 : TI := ⟨.oth, 1, 8, Value.nilFunc, .vv .nilFunc, .bool, false, false⟩
theorem ti117_ok : TI.Ok Try.prog 117 ti117 := ⟨by kernel_rfl, by kernel_rfl, by kernel_rfl, by kernel_rfl, by kernel_rfl, by kernel_rfl, (fun h => nomatch h), (fun h => nomatch h)⟩
def ti119 : TI := ⟨.oth, 1, 8, Value.nilFunc, .vv .nilFunc, .bool, false, false⟩
theorem ti119_ok : TI.Ok Try.prog 119 ti119 := ⟨by kernel_rfl, by kernel_rfl, by kernel_rfl, by kernel_rfl, by kernel_rfl, by kernel_rfl, (fun h => nomatch h), (fun h => nomatch h)⟩
def ti121 : TI := ⟨.sl 4, 1, 24, Value.slice none 0 0, .vv (.slice none 0 0), .sl (.bool), true, false⟩
theorem ti121_ok : TI.Ok Try.prog 121 ti121 := ⟨by kernel_rfl, by kernel_rfl, by kernel_rfl, by kernel_rfl, by kernel_rfl, by kernel_rfl, fun _ => by kernel_rfl, (fun h => nomatch h)⟩
def ti126 : TI := ⟨.int .i64, 1, 8, Value.int IntKind.i64 0, .int .i64 0, .int .i64, true, true⟩
theorem ti126_ok : TI.Ok Try.prog 126 ti126 := ⟨by kernel_rfl, by kernel_rfl, by kernel_rfl, by kernel_rfl, by kernel_rfl, by kernel_rfl, fun _ => by kernel_rfl, fun _ => by kernel_rfl⟩
def ti133 : TI := ⟨.int .u32, 1, 4, Value.int IntKind.u32 0, .int .u32 0, .int .u32, true, true⟩
theorem ti133_ok : TI.Ok Try.prog 133 ti133 := ⟨by kernel_rfl, by kernel_rfl, by kernel_rfl, by kernel_rfl, by kernel_rfl, by kernel_rfl, fun _ => by kernel_rfl, fun _ => by kernel_rfl⟩
def ti135 : TI := ⟨.int .u64, 1, 8, Value.int IntKind.u64 0, .int .u64 0, .int .u64, true, true⟩
theorem ti135_ok : TI.Ok Try.prog 135 ti135 := ⟨by kernel_rfl, by kernel_rfl, by kernel_rfl, by kernel_rfl, by kernel_rfl, by kernel_rfl, fun _ => by kernel_rfl, fun _ => by kernel_rfl⟩
def ti136 : TI := ⟨.int .u64, 1, 8, Value.int IntKind.u64 0, .int .u64 0, .int .u64, true, true⟩
theorem ti136_ok : TI.Ok Try.prog 136 ti136 := ⟨by kernel_rfl, by kernel_rfl, by kernel_rfl, by kernel_rfl, by kernel_rfl, by kernel_rfl, fun _ => by kernel_rfl, fun _ => by kernel_rfl⟩
def ti140 : TI := ⟨.pt 3, 1, 8, Value.pointer none, .vv (.pointer none), .bool, false, false⟩
theorem ti140_ok : TI.Ok Try.prog 140 ti140 := ⟨by kernel_rfl, by kernel_rfl, by kernel_rfl, by kernel_rfl, by kernel_rfl, by kernel_rfl, (fun h => nomatch h), (fun h => nomatch h)⟩
def ti142 : TI := ⟨.pt 136, 1, 8, Value.pointer none, .vv (.pointer none), .bool, false, false⟩
theorem ti142_ok : TI.Ok Try.prog 142 ti142 := ⟨by kernel_rfl, by kernel_rfl, by kernel_rfl, by kernel_rfl, by kernel_rfl, by kernel_rfl, (fun h => nomatch h), (fun h => nomatch h)⟩
def ttL : List (Option TI) := [none, some ti1, none, some ti3, some ti4, none, none, none, none, none, none, none, none, none, none, none, none, none, none, none, none, none, some ti22, none, none, some ti25, none, none, none, none, none, some ti31, some ti32, none, none, none, none, none, none, none, none, none, none, none, none, none, none, none, none, none, none, none, some ti52, none, none, none, none, some ti57, none, none, none, none, none, some ti63, none, some ti65, none, none, none, some ti69, none, some ti71, some ti72, none, none, none, none, none, none, none, none, none, none, none, none, none, none, some ti87, some ti88, none, none, some ti91, some ti92, none, none, none, none, none, none, none, some ti100, some ti101, some ti102, none, none, none, none, none, none, none, some ti110, some ti111, none, none, some ti114, none, none, some ti117, none, some ti119, none, some ti121, none, none, none, none, some ti126, none, none, none, none, none, none, some ti133, none, some ti135, some ti136, none, none, none, some ti140, none, some ti142, none, none, none, none, none, none, none, none]
theorem ttL_ok : AllOk Try.prog 0 ttL := ⟨ti1_ok, ti3_ok, ti4_ok, ti22_ok, ti25_ok, ti31_ok, ti32_ok, ti52_ok, ti57_ok, ti63_ok, ti65_ok, ti69_ok, ti71_ok, ti72_ok, ti87_ok, ti88_ok, ti91_ok, ti92_ok, ti100_ok, ti101_ok, ti102_ok, ti110_ok, ti111_ok, ti114_ok, ti117_ok, ti119_ok, ti121_ok, ti126_ok, ti133_ok, ti135_ok, ti136_ok, ti140_ok, ti142_ok, trivial⟩
def getTI : List (Option TI) → Nat → Option TI
 | [], _ => none
 | a :: _, 0 => a
 | _ :: l, n + 1 => getTI l n
theorem getTI_some : ∀ {l : List (Option TI)} {n : Nat} {ti : TI}, getTI l n = some ti → l[n]? = some (some ti)
 | [], _, _, h => by simp [getTI] at h
 | a :: _, 0, ti, h => by simp [getTI] at h; simp [h]
 | _ :: l, n + 1, ti, h => by simpa using getTI_some (l := l) h
def tt (T : TypeId) : Option TI := getTI ttL T
theorem tt_ok (T : TypeId) (ti : TI) (h : tt T = some ti) : TI.Ok Try.prog T ti := by
 have := ttL_ok.get (getTI_some h)
 rwa [Nat.zero_add] at this
end Go.Am.Or

/- Orders, plain: relations on seven nodes, as they lie. -/
namespace Go.Am.Or
theorem getD_lt {α : Type} {l : List α} {n : Nat} {d : α} (h : n < l.length) : l.getD n d = l[n] := by simp [List.getD_eq_getElem?_getD, h]
theorem mem_getD {α : Type} {l : List α} {n : Nat} {d : α} (h : n < l.length) : l.getD n d ∈ l := by rw [getD_lt h]; exact List.getElem_mem h
theorem take_getD {α : Type} {l : List α} {n : Nat} {d : α} (h : n < l.length) : l.take (n + 1) = l.take n ++ [l.getD n d] := by
 rw [getD_lt h]; exact (List.take_append_getElem h).symm
theorem ext_getD {α : Type} {l m : List α} {d : α} (hl : l.length = m.length) (h : ∀ n, n < l.length → l.getD n d = m.getD n d) : l = m := by
 refine List.ext_getElem hl fun n h1 h2 => ?_
 have := h n h1
 rwa [getD_lt h1, getD_lt h2] at this
abbrev Rl := List (List Bool)
/-- A relation, laid out. -/
def mkW (f : Nat → Bool) : List Bool := (List.range 7).map f
def mkR (f : Nat → Nat → Bool) : Rl := (List.range 7).map fun i => mkW (f i)
theorem mkW_get {f : Nat → Bool} {i : Nat} (h : i < 7) : (mkW f).getD i false = f i := by simp [mkW, List.getD_eq_getElem?_getD, h]
theorem mkR_get {f : Nat → Nat → Bool} {i : Nat} (h : i < 7) (d : List Bool) : (mkR f).getD i d = mkW (f i) := by simp [mkR, List.getD_eq_getElem?_getD, h]
theorem mkW_ext {f g : Nat → Bool} (h : ∀ x, x < 7 → f x = g x) : mkW f = mkW g := List.map_congr_left fun x hx => h x (by simpa using hx)
theorem mkR_ext {f g : Nat → Nat → Bool} (h : ∀ x y, x < 7 → y < 7 → f x y = g x y) : mkR f = mkR g := List.map_congr_left fun x hx => mkW_ext fun y hy => h x y (by simpa using hx) hy
/-- One entry is written. -/
def upd (f : Nat → Nat → Bool) (a b : Nat) (v : Bool) (x y : Nat) : Bool := if x = a ∧ y = b then v else f x y
theorem mkW_set (f : Nat → Bool) (p : Nat) (v : Bool) : (mkW f).set p v = mkW (fun x => if x = p then v else f x) := by
 apply List.ext_getElem (by simp [mkW])
 intro i h1 h2
 rw [List.getElem_set]
 simp only [mkW, List.getElem_map, List.getElem_range]
 by_cases e : p = i
 · rw [if_pos e, if_pos e.symm]
 · rw [if_neg e, if_neg fun h => e h.symm]
theorem mkR_set {f : Nat → Nat → Bool} {a : Nat} (h : a < 7) (b : Nat) (v : Bool) (d : List Bool) : (mkR f).set a (((mkR f).getD a d).set b v) = mkR (upd f a b v) := by
 rw [mkR_get h, mkW_set]
 apply List.ext_getElem (by simp [mkR])
 intro i h1 h2
 rw [List.getElem_set]
 simp only [mkR, List.getElem_map, List.getElem_range]
 by_cases e : a = i
 · subst e
   rw [if_pos rfl]
   exact mkW_ext fun y _ => by unfold upd; simp
 · rw [if_neg e]
   exact mkW_ext fun y _ => by unfold upd; rw [if_neg fun hh => e hh.1.symm]
end Go.Am.Or

/- Orders: what all functions share. -/
namespace Go.Am.Or
open Go Go.Am Go.Proofs
def gl : Nat → Option ((t : Ty) × t.D) := fun _ => none
abbrev EL := List (Entry Try.prog gl)
noncomputable def X (l : EL) : Cy := mkX Try.prog tt gl l 0 (fun _ => none)
theorem X_ok (l : EL) : (X l).Ok := mkX_ok tt_ok l 0 _
noncomputable def Xd (l : EL) (dr : Nat → Option Nat) : Cy := mkX Try.prog tt gl l 0 dr
theorem Xd_ok (l : EL) (dr : Nat → Option Nat) : (Xd l dr).Ok := mkX_ok tt_ok l 0 dr
def drOf (l : List (Nat × Nat)) (i : Nat) : Option Nat := match l with
 | [] => none
 | p :: l => if Nat.beq p.1 i then some p.2 else drOf l i
/-- The loop under a block. -/
noncomputable def lp (c : Code) (id : Nat) : Code := go c
where go : Code → Code
 | .seq a b => match go a with
   | .skip => go b
   | c => c
 | .block i (.loop b) => if i = id then b else go b
 | .block _ b => go b
 | .scope b => go b
 | .cond _ a b => match go a with
   | .skip => go b
   | c => c
 | _ => .skip
def bodyOf (f : Func) : Code := f.body.getD .skip
theorem of_eq {p q : Prop} (h : p = q) (hq : q) : p := h ▸ hq
def dd (n : Nat) : List AV := List.replicate n .dead
theorem LoopOK.mono {X : Cy} {b : Code} {h : Hint} {R R' : Exit → St → Prop} (hL : LoopOK X b h R) (hR : ∀ st, R .ret st → R' .ret st) : LoopOK X b h R' := by
 intro ro G h1 h2 h3 E F st a w hr hJ
 refine wpIn_mono (hL ro G h1 h2 h3 E F st a w hr hJ) fun e a w he => ?_
 cases e with
 | ret =>
   obtain ⟨E, F, st, h4, h5⟩ := he
   exact ⟨E, F, st, h4, hR _ h5⟩
 | _ => exact he
theorem i02 : idxPre 0 2 := by unfold idxPre; omega
theorem i12 : idxPre 1 2 := by unfold idxPre; omega
theorem idx_nat {i n : Nat} (h : i < n) : idxPre (i : Int) n := by unfold idxPre; omega
abbrev I64 : Ty := .int .i64
abbrev SI : Ty := .sl (.int .i64)
abbrev P2 : Ty := .a2 (.int .i64)
abbrev SP : Ty := .sl (.a2 (.int .i64))
noncomputable def Xw (l : EL) (hs : Nat → Bool) : Cy := { X l with hs := hs }
theorem Xw_ok (l : EL) (hs : Nat → Bool) : (Xw l hs).Ok := { tt := (X_ok l).tt, Γ := (X_ok l).Γ, Γd := (X_ok l).Γd, Yl := (X_ok l).Yl }
noncomputable def Xv (l : EL) (dr : Nat → Option Nat) (ts : List Nat) : Cy := { Xd l dr with hs := fun t => ts.any fun i => Nat.beq t (i + 2000000) }
theorem Xv_ok (l : EL) (dr : Nat → Option Nat) (ts : List Nat) : (Xv l dr ts).Ok := { tt := (Xd_ok l dr).tt, Γ := (Xd_ok l dr).Γ, Γd := (Xd_ok l dr).Γd, Yl := (Xd_ok l dr).Yl }
/-- What the propositions of a run are cleared by. -/
theorem zz : (∀ p : Prop, (True ∧ p) = p) ∧ (∀ p : Prop, (p ∧ True) = p) ∧ (∀ p : Prop, (False ∧ p) = False) ∧ (∀ p : Prop, (p ∧ False) = False) ∧ (∀ p : Prop, (p ∨ False) = p) ∧ (∀ p : Prop, (False ∨ p) = p)
   ∧ (∀ (b : Prop) (α : Type) [Nonempty α], (∃ _ : α, b) ↔ b) ∧ (∀ α : Type, ¬ ∃ _ : α, False) ∧ ∀ n : Nat, (n : Int).toNat = n :=
 ⟨true_and, and_true, false_and, and_false, or_false, false_or, fun _ α _ => exists_const α, fun _ h => h.elim fun _ h => h, Int.toNat_natCast⟩
end Go.Am.Or

/- Orders: comparing; graphs are opened. -/
namespace Go.Am.Or
open Go Go.Am Go.Proofs
noncomputable def Xm (l : EL) (m0 : Nat) (dr : Nat → Option Nat) : Cy := mkX Try.prog tt gl l m0 dr
theorem Xm_ok (l : EL) (m0 : Nat) (dr : Nat → Option Nat) : (Xm l m0 dr).Ok := mkX_ok tt_ok l m0 dr
theorem call86 (a : Int) (_ : True) : GCall Try.prog gl 86 true [.int .i64 a] [] [.ff] [] := by
 refine gcall_of (X := X []) (X_ok []) (f := 86) (fn := Try.f86) (c := bodyOf Try.f86) (by kernel_rfl) (by kernel_rfl) (view := false) (rvs := [.tmp 2]) (by kernel_rfl) (H := fun _ => none) 80 (by kernel_rfl) ?_
 refine of_eq (q := True ∧ True ∧ True ∧ True ∧ True ∧ True ∧ ((decide ¬a = a) = false ∧ True) ∧ True) (by kernel_rfl) ?_
 simp only [zz]
 simp
def e86 : Entry Try.prog gl := entry1 86 ⟨Try.f86, by kernel_rfl, by kernel_rfl, by kernel_rfl⟩ I64 (fun (_ : Int) => True) true (fun _ => [.ff]) (fun _ => []) (call86)
def cmpI (a b : Int) : Int := if a < b then -1 else if b < a then 1 else 0
theorem call83 (a b : Int) (_ : True) : GCall Try.prog gl 83 true [.int .i64 a, .int .i64 b] [] [.int .i64 (cmpI a b)] [] := by
 refine gcall_of (X := X [e86]) (X_ok [e86]) (f := 83) (fn := Try.f83) (c := bodyOf Try.f83) (by kernel_rfl) (by kernel_rfl) (view := false) (rvs := [.tmp 4]) (by kernel_rfl) (H := fun _ => none) 80 (by kernel_rfl) ?_
 refine of_eq (q := (fun (c : Prop) => c ∧ c ∧ (c ∧ c) ∧ c ∧ c ∧ (c ∧ c) ∧ c ∧ c ∧ c ∧ c ∧ c ∧ c ∧ (a < b → c ∧ c ∧ ((-1 : Int) = cmpI a b ∧ c) ∧ c) ∧ (¬a < b → c ∧ c ∧ c ∧ (b < a → c ∧ c ∧ ((1 : Int) = cmpI a b ∧ c) ∧ c) ∧ (¬b < a → c ∧ c ∧ ((0 : Int) = cmpI a b ∧ c) ∧ c))) (True)) (by kernel_rfl) ?_
 simp only [zz]
 unfold cmpI
 grind
def e83 : Entry Try.prog gl := entry2 83 ⟨Try.f83, by kernel_rfl, by kernel_rfl, by kernel_rfl⟩ I64 I64 (fun (_ _ : Int) => True) true (fun (a b : Int) => [.int .i64 (cmpI a b)]) (fun _ _ => []) (call83)
/-- Lists compared. -/
def cmpL : List Int → List Int → Int
 | [], [] => 0
 | [], _ :: _ => -1
 | _ :: _, [] => 1
 | a :: l, b :: m => if a < b then -1 else if b < a then 1 else cmpL l m
theorem drop_getD {α : Type} {l : List α} {n : Nat} {d : α} (h : n < l.length) : l.drop n = l.getD n d :: l.drop (n + 1) := by
 rw [getD_lt h]; exact List.drop_eq_getElem_cons h
noncomputable def L77_0 : Code := lp (bodyOf Try.f77) 0
def st77 (l m : List Int) (k : Nat) : St := ⟨.sl I64 l :: .sl I64 m :: dd 7 ++ .sl I64 l :: .int .i64 l.length :: .int .i64 k :: dd 24, []⟩
def in77 (l m : List Int) (k : Nat) : Prop := k ≤ l.length ∧ k ≤ m.length ∧ cmpL (l.drop k) (m.drop k) = cmpL l m
def ex77 (l m : List Int) : List (List Nat × Ex) := [([0, 1], ⟨0, Unit, fun _ => l.length ≤ m.length ∧ cmpL [] (m.drop l.length) = cmpL l m, fun _ => ⟨.sl I64 l :: .sl I64 m :: dd 34, []⟩⟩)]
def h77 (l m : List Int) : Hint := ⟨chk 0 [0, 1, 9, 10, 11] (in77 l m) (st77 l m), (ex77 l m).map (·.2)⟩
theorem loop77 (l m : List Int) (hl : l.length < 1000000) (hm : m.length < 1000000) : LoopOK (X [e83]) L77_0 (h77 l m) (RetR (X [e83]) true false [.tmp 4] [.int .i64 (cmpL l m)] []) := by
 refine loop_ok (X_ok _) (H := fun _ _ => none) [0, 1, 9, 10, 11] (in77 l m) (st77 l m) (fun k => l.length - k) (ex77 l m) 100 fun (k : Nat) hk => ?_
 refine of_eq (q := (fun (e : Nat) => (fun (d : Int) => (fun (c : Int) => (fun (b : Prop) => (fun (a : Int) => b ∧ (c < d → b ∧ idxPre c l.length ∧ b ∧ b ∧ b ∧ b ∧ b ∧ b ∧ b ∧ ((m.length : Int) ≤ c → b ∧ b ∧ ((1 : Int) = cmpL l m ∧ b) ∧ b) ∧ (¬(m.length : Int) ≤ c → b ∧ b ∧ idxPre c m.length ∧ b ∧ b ∧ b ∧ b ∧ (b ∧ b) ∧ b ∧ b ∧ b ∧ (¬a = 0 → b ∧ b ∧ b ∧ (a = cmpL l m ∧ b) ∧ b) ∧ (¬¬a = 0 → inR .i64 (c + 1) ∧ b ∧ ∃ (y : Nat), (in77 l m y ∧ e - y < e - k) ∧ (l = l ∧ m = m ∧ l = l ∧ d = d ∧ c + 1 = (y : Int) ∧ b) ∧ b))) ∧ (¬c < d → ∃ (y : Unit), (e ≤ m.length ∧ cmpL [] (List.drop e m) = cmpL l m) ∧ (l = l ∧ m = m ∧ b) ∧ b)) (cmpI (l.getD k (0 : Int)) (m.getD k (0 : Int)))) (True)) ((k : Int))) ((e : Int))) (l.length)) (by kernel_rfl) ?_
 simp only [zz]
 obtain ⟨k1, k2, k3⟩ := hk
 have hm2 : ∀ {a b : List Int}, a = l.drop k → b = m.drop k → cmpL a b = cmpL l m := fun h1 h2 => by rw [h1, h2]; exact k3
 refine ⟨fun h1 => ?_, fun h1 => ?_⟩
 · have h1 : k < l.length := by omega
   refine ⟨idx_nat h1, fun h2 => ?_, fun h2 => ?_⟩
   · rw [← k3, drop_getD (d := 0) h1, List.drop_of_length_le (show m.length ≤ k by omega)]; try rfl
   · have h2 : k < m.length := by omega
     rw [drop_getD (d := 0) h1, drop_getD (d := 0) h2, cmpL] at k3
     unfold cmpI
     refine ⟨idx_nat h2, fun h3 => ?_, fun h3 => ⟨by simp only [inR]; omega, k + 1, ⟨⟨by omega, by omega, ?_⟩, by omega⟩, by omega⟩⟩
     · rw [← k3]
       split
       · rfl
       · split
         · rfl
         · rename_i h4 h5
           rw [if_neg h4, if_neg h5] at h3
           exact absurd rfl h3
     · rw [← k3]
       have h3 := Classical.not_not.mp h3
       have h4 : ¬ l.getD k 0 < m.getD k 0 := fun h => by rw [if_pos h] at h3; cases h3
       have h5 : ¬ m.getD k 0 < l.getD k 0 := fun h => by rw [if_neg h4, if_pos h] at h3; cases h3
       rw [if_neg h4, if_neg h5]
 · have e : k = l.length := by omega
   subst e
   rw [List.drop_length] at k3
   exact ⟨k2, k3⟩
theorem call77 (l m : List Int) (h : l.length < 1000000 ∧ m.length < 1000000) : GCall Try.prog gl 77 true [.sl I64 l, .sl I64 m] [] [.int .i64 (cmpL l m)] [] := by
 refine gcall_of (X := X [e83]) (X_ok [e83]) (f := 77) (fn := Try.f77) (c := bodyOf Try.f77) (by kernel_rfl) (by kernel_rfl) (view := false) (rvs := [.tmp 4]) (by kernel_rfl) (H := (fun _ => some (h77 l m))) 80 (by kernel_rfl) ?_
 have hL := loop77 l m h.1 h.2
 refine of_eq (q := (fun (b : Prop) => (fun (a : Prop) => a ∧ a ∧ a ∧ a ∧ LoopOK (X [e83]) L77_0 (h77 l m) (RetR (X [e83]) true false [ResultVar.tmp (4 : Tmp)] [AV.int .i64 (cmpL l m)] []) ∧ (∃ (y : Nat), in77 l m y ∧ (l = l ∧ m = m ∧ l = l ∧ (l.length : Int) = (l.length : Int) ∧ (0 : Int) = (y : Int) ∧ a) ∧ a) ∧ (∀ (y : Unit), l.length ≤ m.length ∧ cmpL [] (List.drop l.length m) = cmpL l m → a ∧ a ∧ a ∧ a ∧ a ∧ (b → a ∧ a ∧ ((-1 : Int) = cmpL l m ∧ a) ∧ a) ∧ (¬b → a ∧ a ∧ ((0 : Int) = cmpL l m ∧ a) ∧ a)) ∧ a) (True)) ((l.length : Int) < (m.length : Int))) (by kernel_rfl) ?_
 simp only [zz]
 refine ⟨hL, ⟨0, ⟨Nat.zero_le _, Nat.zero_le _, rfl⟩, rfl⟩, fun _ ⟨h1, h2⟩ => ⟨fun h3 => ?_, fun h3 => ?_⟩⟩
 · rw [← h2, drop_getD (d := 0) (show l.length < m.length by omega)]; try rfl
 · rw [← h2, List.drop_of_length_le (by omega)]; try rfl
def e77 : Entry Try.prog gl := entry2 77 ⟨Try.f77, by kernel_rfl, by kernel_rfl, by kernel_rfl⟩ SI SI (fun l m => (l : List Int).length < 1000000 ∧ (m : List Int).length < 1000000) true (fun l m => [.int .i64 (cmpL l m)]) (fun _ _ => []) (call77)
abbrev LP := List (Int × Int)
abbrev Q7 : Ty := .ar 7 .bool
/-- A graph as it lies. -/
def grO (n : Int) (f : Nat → Nat → Bool) : Ob := .bx (.agg [.int .i64 n, .ar Q7 7 (mkR f)])
/-- An edge of a list, in both directions. -/
def eg (l : LP) (x y : Nat) : Bool := l.any fun e => (decide (e.1 = (x : Int)) && decide (e.2 = (y : Int))) || (decide (e.1 = (y : Int)) && decide (e.2 = (x : Int)))
def lt2 (p q : Int × Int) : Prop := p.1 < q.1 ∨ p.1 = q.1 ∧ p.2 < q.2
def edOk (n : Int) (l : LP) (k : Nat) : Prop := 0 ≤ (l.getD k (0, 0)).1 ∧ (l.getD k (0, 0)).1 < (l.getD k (0, 0)).2 ∧ (l.getD k (0, 0)).2 < n ∧ (0 < k → lt2 (l.getD (k - 1) (0, 0)) (l.getD k (0, 0)))
/-- A graph. -/
structure grOk (n : Int) (l : LP) : Prop where
 hn : 1 ≤ n ∧ n ≤ 7
 he : ∀ k, k < l.length → edOk n l k
 hl : l.length ≤ 1000
theorem cmp_lt2 {p q : Int × Int} (h : lt2 p q) : cmpL [p.1, p.2] [q.1, q.2] = -1 := by
 unfold lt2 at h
 simp only [cmpL]
 grind
theorem eg_step {l : LP} {k : Nat} (h : k < l.length) {a b : Nat} (ha : (l.getD k (0, 0)).1 = (a : Int)) (hb : (l.getD k (0, 0)).2 = (b : Int)) : upd (upd (eg (l.take k)) a b true) b a true = eg (l.take (k + 1)) := by
 funext x y
 unfold upd eg
 rw [take_getD (d := (0, 0)) h, List.any_append, List.any_cons, List.any_nil, ha, hb]
 by_cases h1 : x = b ∧ y = a
 · rw [if_pos h1, h1.1, h1.2]; simp
 · rw [if_neg h1]
   by_cases h2 : x = a ∧ y = b
   · rw [if_pos h2, h2.1, h2.2]; simp
   · rw [if_neg h2]
     have e1 : (decide ((a : Int) = (x : Int)) && decide ((b : Int) = (y : Int))) = false := by
       simp; omega
     have e2 : (decide ((a : Int) = (y : Int)) && decide ((b : Int) = (x : Int))) = false := by
       simp; omega
     rw [e1, e2]; simp
noncomputable def L45_0 : Code := lp (bodyOf Try.f45) 0
def st45 (n : Int) (l : LP) (k : Nat) : St := ⟨.int .i64 n :: .sl P2 l :: dd 4 ++ .ptr 0 0 [] :: dd 11 ++ .sl P2 l :: .int .i64 l.length :: .int .i64 k :: dd 54, [grO n (eg (l.take k))]⟩
def in45 (l : LP) (k : Nat) : Prop := k ≤ l.length
def ex45 (n : Int) (l : LP) : List (List Nat × Ex) := [([6], ⟨0, Unit, fun _ => True, fun _ => ⟨dd 6 ++ .ptr 0 0 [] :: dd 68, [grO n (eg l)]⟩⟩)]
def h45 (n : Int) (l : LP) : Hint := ⟨chk 0 [0, 1, 6, 18, 19, 20] (in45 l) (st45 n l), (ex45 n l).map (·.2)⟩
noncomputable abbrev X45 : Cy := Xm [e77] 0 (drOf [(9, 15019)])
noncomputable def R45 (n : Int) (l : LP) : Exit → St → Prop := RetR X45 true false [.tmp 4, .tmp 5] [.ptr 0 0 [], .int .i64 0] [grO n (eg l)]
theorem loop45 (n : Int) (l : LP) (h : grOk n l) : LoopOK X45 L45_0 (h45 n l) (R45 n l) := by
 refine loop_ok (Xm_ok _ _ _) (H := fun _ _ => none) [0, 1, 6, 18, 19, 20] (in45 l) (st45 n l) (fun k => l.length - k) (ex45 n l) 200 fun (k : Nat) hk => ?_
 refine of_eq (q := (fun (z : Nat) => (fun (v : Int) => (fun (s : Rl) => (fun (q : Int) => (fun (p : List Bool) => (fun (o : Prop) => (fun (j : Nat) => (fun (u : AV) => (fun (i : Int) => (fun (r : Prop) => (fun (h : Int) => (fun (f : Prop) => (fun (g : Prop) => (fun (c : Prop) => (fun (b : Int × Int) => (fun (x : Int) => (fun (t : Int) => (fun (A : AV) => (fun (w : Prop) => (fun (m : List Int) => (fun (e : List (List Bool)) => (fun (d : Prop) => (fun (a : Prop) => f ∧ (h < q → f ∧ idxPre h (List.length l) ∧ f ∧ f ∧ f ∧ f ∧ r ∧ f ∧ f ∧ f ∧ (x < i → f ∧ f ∧ f ∧ f ∧ f ∧ g) ∧ (¬x < i → r ∧ f ∧ o ∧ f ∧ f ∧ f ∧ f ∧ (t ≤ x → f ∧ f ∧ f ∧ g) ∧ (¬t ≤ x → o ∧ f ∧ f ∧ f ∧ f ∧ f ∧ (n ≤ t → f ∧ g) ∧ (¬n ≤ t → f ∧ f ∧ f ∧ (i < h → f ∧ f ∧ inR .i64 (h - v) ∧ idxPre (h - v) (List.length l) ∧ f ∧ slPre z z none none none ∧ (z < 1000000 ∧ m.length < 1000000) ∧ f ∧ f ∧ f ∧ (d → g) ∧ (¬d → a)) ∧ (¬i < h → f ∧ f ∧ a))))) ∧ (¬h < q → ∃ (y : Unit), f ∧ (f ∧ f) ∧ (n = n ∧ s = mkR (eg l) ∧ f) ∧ f)) (f ∧ c ∧ r ∧ c ∧ f ∧ c ∧ o ∧ c ∧ f ∧ c ∧ f ∧ c ∧ o ∧ c ∧ f ∧ c ∧ r ∧ c ∧ f ∧ c ∧ f ∧ c ∧ f ∧ c ∧ idxPre x (7 : Nat) ∧ c ∧ w ∧ c ∧ f ∧ ((f ∧ u = u) ∧ f) ∧ f ∧ ((f ∧ u = u) ∧ c) ∧ f ∧ ((f ∧ AV.ptr j j [(1 : Nat)] = AV.ptr j j [(1 : Nat)]) ∧ c) ∧ w ∧ ((w ∧ A = A) ∧ c) ∧ idxPre x (7 : Nat) ∧ f ∧ f ∧ inR .i64 (h + v) ∧ f ∧ ∃ (y : Nat), (in45 l y ∧ List.length l - y < List.length l - k) ∧ (n = n ∧ l = l ∧ f ∧ l = l ∧ q = q ∧ h + v = (y : Int) ∧ f) ∧ (n = n ∧ e.set t.toNat (List.set (e.getD t.toNat p) x.toNat true) = mkR (eg (List.take y l)) ∧ f) ∧ f)) (i ≤ cmpL [(List.getD l (h - v).toNat (i, i)).fst, (List.getD l (h - v).toNat (i, i)).snd] m)) (List.set s x.toNat (List.set (List.getD s x.toNat p) t.toNat true))) (List.take (bHi z none - bLo none) (List.drop (bLo none) [x, t]))) (idxPre t (7 : Nat))) (AV.ptr j j [(1 : Nat), t.toNat])) (b.snd)) (b.fst)) (List.getD l k (i, i))) (true = true)) (f ∧ f ∧ f ∧ (False ∧ (20 : Int) = i ∧ f) ∧ False)) (True)) ((k : Int))) (idxPre i z)) ((0 : Int))) (AV.ptr j j [])) ((0 : Nat))) (idxPre v z)) ([false, false, false, false, false, false, false])) ((↑(List.length l) : Int))) (mkR (eg (List.take k l)))) ((1 : Int))) ((2 : Nat))) (by kernel_rfl) ?_
 simp only [zz]
 have hk : k ≤ l.length := hk
 obtain ⟨n1, n2⟩ := h.hn
 have hl := h.hl
 refine ⟨fun h1 => ?_, fun h1 => by rw [List.take_of_length_le (by omega)]⟩
 have h1 : k < l.length := by omega
 obtain ⟨e1, e2, e3, e4⟩ := h.he k h1
 obtain ⟨a, ha⟩ : ∃ a : Nat, (l.getD k (0, 0)).1 = (a : Int) := ⟨(l.getD k (0, 0)).1.toNat, by omega⟩
 obtain ⟨b, hb⟩ : ∃ b : Nat, (l.getD k (0, 0)).2 = (b : Int) := ⟨(l.getD k (0, 0)).2.toNat, by omega⟩
 have hst := eg_step h1 ha hb
 rw [ha] at e1 e2
 rw [hb] at e2 e3
 have hc : 0 < k → cmpL [(l.getD (k - 1) (0, 0)).1, (l.getD (k - 1) (0, 0)).2] [(l.getD k (0, 0)).1, (l.getD k (0, 0)).2] = -1 := fun h0 => cmp_lt2 (e4 h0)
 have ek : ((k : Int) - 1).toNat = k - 1 := by omega
 have eT : ∀ x y : Int, List.take (bHi 2 none - bLo none) (List.drop (bLo none) [x, y]) = [x, y] := fun _ _ => rfl
 rw [ek, eT]
 rw [ha, hb] at hc ⊢
 simp only [Int.toNat_natCast]
 rw [mkR_set (by omega), mkR_set (by omega), hst]
 have i7a : idxPre (a : Int) 7 := by unfold idxPre; omega
 have i7b : idxPre (b : Int) 7 := by unfold idxPre; omega
 have fin : idxPre 0 2 ∧ idxPre 1 2 ∧ idxPre 1 2 ∧ idxPre 0 2 ∧ idxPre (a : Int) 7 ∧ idxPre (b : Int) 7 ∧ idxPre (b : Int) 7 ∧ idxPre (b : Int) 7 ∧ idxPre (a : Int) 7 ∧ inR .i64 ((k : Int) + 1) ∧ ∃ y, (in45 l y ∧ l.length - y < l.length - k) ∧ (k : Int) + 1 = (y : Int) ∧ mkR (eg (l.take (k + 1))) = mkR (eg (l.take y)) :=
   ⟨i02, i12, i12, i02, i7a, i7b, i7b, i7b, i7a, by simp only [inR]; omega, k + 1, ⟨by unfold in45; omega, by omega⟩, by omega, rfl⟩
 refine ⟨idx_nat h1, i02, fun h2 => by omega, fun _ => ⟨i02, i12, fun h2 => by omega, fun _ => ⟨i12, fun h2 => by omega, fun _ => ⟨fun h2 => ⟨by simp only [inR]; omega, by unfold idxPre; omega, by simp [slPre, bLo, bHi], ⟨by decide, by simp⟩, fun h3 => ?_, fun _ => fin⟩, fun _ => fin⟩⟩⟩⟩
 rw [hc (by omega)] at h3
 omega
theorem call45 (n : Int) (l : LP) (h : grOk n l) : GCall Try.prog gl 45 true [.int .i64 n, .sl P2 l] [] [.ptr 0 0 [], .int .i64 0] [grO n (eg l)] := by
 refine gcall_of (X := X45) ((Xm_ok _ _ _)) (f := 45) (fn := Try.f45) (c := bodyOf Try.f45) (by kernel_rfl) (by kernel_rfl) (view := false) (rvs := [.tmp 4, .tmp 5]) (by kernel_rfl) (H := (fun _ => some (h45 n l))) 150 (by kernel_rfl) ?_
 have hL := loop45 n l h
 refine of_eq (q := (fun (b : Prop) => (fun (c : Prop) => (fun (a : List Bool) => b ∧ b ∧ b ∧ b ∧ b ∧ (n < 1 → b ∧ c) ∧ (¬n < 1 → b ∧ b ∧ b ∧ ((7 : Int) < n → c) ∧ (¬(7 : Int) < n → b ∧ b ∧ b ∧ b ∧ b ∧ b ∧ b ∧ LoopOK X45 L45_0 (h45 n l) (R45 n l) ∧ (∃ (y : Nat), in45 l y ∧ (n = n ∧ l = l ∧ b ∧ l = l ∧ (↑(List.length l) : Int) = (↑(List.length l) : Int) ∧ (0 : Int) = (y : Int) ∧ b) ∧ (n = n ∧ [a, a, a, a, a, a, a] = mkR (eg (List.take y l)) ∧ b) ∧ b) ∧ (∀ (y : Unit), b → b ∧ b ∧ b ∧ b ∧ (b ∧ (0 : Int) = 0 ∧ b) ∧ (n = n ∧ mkR (eg l) = mkR (eg l) ∧ b) ∧ b) ∧ b))) ([false, false, false, false, false, false, false])) (b ∧ b ∧ b ∧ (False ∧ (1 : Int) = 0 ∧ b) ∧ False)) (True)) (by kernel_rfl) ?_
 simp only [zz]
 obtain ⟨n1, n2⟩ := h.hn
 refine ⟨fun h1 => by omega, fun _ => ⟨fun h1 => by omega, fun _ => ⟨hL, ⟨0, Nat.zero_le _, rfl, ?_⟩, fun _ _ => trivial⟩⟩⟩
 show _ = mkR (eg [])
 rw [mkR_ext (g := fun _ _ => false) fun x y _ _ => by simp [eg]]
 rfl
def e45 : Entry Try.prog gl := entry2 45 ⟨Try.f45, by kernel_rfl, by kernel_rfl, by kernel_rfl⟩ I64 (.sl P2) (fun (n : Int) l => grOk n l) true (fun _ _ => [.ptr 0 0 [], .int .i64 0]) (fun n l => [grO n (eg l)]) call45
end Go.Am.Or

/- Orders: whether a relation is transitive. -/
namespace Go.Am.Or
open Go Go.Am Go.Proofs
def relO (f : Nat → Nat → Bool) : Ob := .bx (.ar Q7 7 (mkR f))
/-- The entries of a relation as it lies. -/
def rg (xs : Rl) (i j : Nat) : Bool := (xs.getD i []).getD j false
theorem rg_mk {f : Nat → Nat → Bool} {i j : Nat} (hi : i < 7) (hj : j < 7) : rg (mkR f) i j = f i j := by unfold rg; rw [mkR_get hi, mkW_get hj]
theorem mk_rg (f : Nat → Nat → Bool) : mkR f = mkR (rg (mkR f)) := mkR_ext fun x y hx hy => (rg_mk hx hy).symm
def tcC (f : Nat → Nat → Bool) (a b c : Nat) : Prop := ∀ z, z < c → f b z = true → f a z = true
def tcB (f : Nat → Nat → Bool) (a b : Nat) : Prop := ∀ y, y < b → f a y = true → f y a = false ∧ tcC f a y 7
def tcA (f : Nat → Nat → Bool) (a : Nat) : Prop := ∀ x, x < a → tcB f x 7
instance (f a b c) : Decidable (tcC f a b c) := by unfold tcC; infer_instance
instance (f a b) : Decidable (tcB f a b) := by unfold tcB; infer_instance
instance (f a) : Decidable (tcA f a) := by unfold tcA; infer_instance
def trB (f : Nat → Nat → Bool) : Bool := decide (tcA f 7)
abbrev w7 : List Bool := [false, false, false, false, false, false, false]
theorem rel_get (f : Nat → Nat → Bool) {i j : Nat} (hi : i < 7) (hj : j < 7) : List.getD (List.getD (mkR f) i w7) j false = f i j := by rw [mkR_get hi, mkW_get hj]
theorem tc_no {f : Nat → Nat → Bool} {a b : Nat} (ha : a < 7) (hb : b < 7) (hf : f a b = true) (h : f b a = true ∨ ∃ c, c < 7 ∧ f b c = true ∧ f a c = false) : trB f = false := by
 refine decide_eq_false fun h2 => ?_
 obtain ⟨h3, h4⟩ := h2 a ha b hb hf
 rcases h with h | ⟨c, c1, c2, c3⟩
 · rw [h] at h3; cases h3
 · rw [h4 c c1 c2] at c3; cases c3
noncomputable abbrev X48 : Cy := X []
noncomputable def L48_0 : Code := lp (bodyOf Try.f48) 0
noncomputable def L48_2 : Code := lp (bodyOf Try.f48) 2
noncomputable def L48_4 : Code := lp (bodyOf Try.f48) 4
noncomputable def R48 (f : Nat → Nat → Bool) : Exit → St → Prop := RetR X48 true false [.tmp 2] [.bool (trB f)] []
def sa48 (f : Nat → Nat → Bool) (a : Nat) : St := ⟨.dead :: .ptr 0 0 [] :: dd 4 ++ .int .i64 a :: dd 35, [relO f]⟩
def ia48 (f : Nat → Nat → Bool) (a : Nat) : Prop := a ≤ 7 ∧ tcA f a
def xa48 (f : Nat → Nat → Bool) : List (List Nat × Ex) := [([], ⟨0, Unit, fun _ => tcA f 7, fun _ => ⟨dd 42, []⟩⟩)]
def ha48 (f : Nat → Nat → Bool) : Hint := ⟨chk 0 [1, 6] (ia48 f) (sa48 f), (xa48 f).map (·.2)⟩
def sb48 (f : Nat → Nat → Bool) (a b : Nat) : St := ⟨.dead :: .ptr 0 0 [] :: .dead :: .int .i64 a :: dd 2 ++ .int .i64 a :: dd 2 ++ .int .i64 b :: dd 32, [relO f]⟩
def ib48 (f : Nat → Nat → Bool) (a b : Nat) : Prop := b ≤ 7 ∧ tcB f a b
def xb48 (f : Nat → Nat → Bool) (a : Nat) : List (List Nat × Ex) := [([1, 6], ⟨2, Unit, fun _ => tcB f a 7, fun _ => sa48 f a⟩)]
def hb48 (f : Nat → Nat → Bool) (a : Nat) : Hint := ⟨chk 0 [1, 3, 6, 9] (ib48 f a) (sb48 f a), (xb48 f a).map (·.2)⟩
def sc48 (f : Nat → Nat → Bool) (a b c : Nat) : St := ⟨.dead :: .ptr 0 0 [] :: .dead :: .int .i64 a :: .int .i64 b :: .dead :: .int .i64 a :: dd 2 ++ .int .i64 b :: dd 13 ++ .int .i64 c :: dd 18, [relO f]⟩
def ic48 (f : Nat → Nat → Bool) (a b c : Nat) : Prop := c ≤ 7 ∧ tcC f a b c
def xc48 (f : Nat → Nat → Bool) (a b : Nat) : List (List Nat × Ex) := [([1, 3, 6, 9], ⟨4, Unit, fun _ => tcC f a b 7, fun _ => sb48 f a b⟩)]
def hc48 (f : Nat → Nat → Bool) (a b : Nat) : Hint := ⟨chk 0 [1, 3, 4, 6, 9, 23] (ic48 f a b) (sc48 f a b), (xc48 f a b).map (·.2)⟩
theorem loop48c (f : Nat → Nat → Bool) (a b : Nat) (ha : a < 7) (hb : b < 7) (hf : f a b = true) (R : Exit → St → Prop) (hR : R = bodyR 0 (xb48 f a) (bodyR 0 (xa48 f) (R48 f))) : LoopOK X48 L48_4 (hc48 f a b) R := by
 subst hR
 refine loop_ok (X_ok _) (H := fun _ _ => none) [1, 3, 4, 6, 9, 23] (ic48 f a b) (sc48 f a b) (fun c => 7 - c) (xc48 f a b) 150 fun (c : Nat) hc => ?_
 refine of_eq (q := (fun (l : Nat) => (fun (k : Int) => (fun (j : Prop) => (fun (i : Int) => (fun (h : Rl) => (fun (g : Int) => (fun (e : List Bool) => (fun (m : Bool) => (fun (d : Prop) => j ∧ (k < 7 → j ∧ j ∧ j ∧ j ∧ idxPre i l ∧ idxPre k l ∧ j ∧ j ∧ (List.getD (List.getD h b e) c false = true → j ∧ j ∧ idxPre g l ∧ idxPre k l ∧ j ∧ j ∧ j ∧ (m = true → j ∧ j ∧ (false = trB f ∧ j) ∧ j) ∧ (m = false → d)) ∧ (List.getD (List.getD h b e) c false = false → j ∧ d)) ∧ (¬k < 7 → ∃ (y : Unit), tcC f a b l ∧ (j ∧ g = g ∧ g = g ∧ i = i ∧ j) ∧ h = h ∧ j)) (inR .i64 (k + 1) ∧ j ∧ ∃ (y : Nat), (ic48 f a b y ∧ l - y < l - c) ∧ (j ∧ g = g ∧ i = i ∧ g = g ∧ i = i ∧ k + 1 = (y : Int) ∧ j) ∧ h = h ∧ j)) (!List.getD (List.getD h a e) c false)) ([false, false, false, false, false, false, false])) ((a : Int))) (mkR f)) ((b : Int))) (True)) ((c : Int))) ((7 : Nat))) (by kernel_rfl) ?_
 simp only [zz]
 obtain ⟨c1, c2⟩ := hc
 have next : c < 7 → (f b c = true → f a c = true) → inR .i64 ((c : Int) + 1) ∧ ∃ y : Nat, (ic48 f a b y ∧ 7 - y < 7 - c) ∧ (c : Int) + 1 = (y : Int) := fun h1 h2 => ⟨by simp only [inR]; omega, c + 1, ⟨⟨by omega, fun z hz hz2 => by
   by_cases e : z = c
   · subst e; exact h2 hz2
   · exact c2 z (by omega) hz2⟩, by omega⟩, by omega⟩
 refine ⟨fun h1 => ?_, fun h1 => by rwa [show c = 7 by omega] at c2⟩
 have h1 : c < 7 := by omega
 rw [rel_get f hb h1, rel_get f ha h1]
 refine ⟨by unfold idxPre; omega, by unfold idxPre; omega, fun h2 => ⟨by unfold idxPre; omega, by unfold idxPre; omega, fun h3 => ?_, fun h3 => next h1 fun _ => by simpa using h3⟩, fun h2 => next h1 fun h3 => by rw [h2] at h3; cases h3⟩
 exact (tc_no ha hb hf (.inr ⟨c, h1, h2, by simpa using h3⟩)).symm
theorem loop48b (f : Nat → Nat → Bool) (a : Nat) (ha : a < 7) (R : Exit → St → Prop) (hR : R = bodyR 0 (xa48 f) (R48 f)) : LoopOK X48 L48_2 (hb48 f a) R := by
 subst hR
 refine loop_ok (X_ok _) (H := fun b _ => some (hc48 f a b)) [1, 3, 6, 9] (ib48 f a) (sb48 f a) (fun b => 7 - b) (xb48 f a) 150 fun (b : Nat) hb => ?_
 have hL := fun h1 h2 => loop48c f a b ha h1 h2 (bodyR 0 (xb48 f a) (bodyR 0 (xa48 f) (R48 f))) rfl
 refine of_eq (q := (fun (j : Nat) => (fun (i : Prop) => (fun (h : Int) => (fun (g : Rl) => (fun (e : Int) => (fun (d : List Bool) => (fun (k : Bool) => (fun (c : Prop) => i ∧ (h < 7 → i ∧ i ∧ i ∧ i ∧ idxPre e j ∧ idxPre h j ∧ i ∧ i ∧ (k = true → c) ∧ (k = false → i ∧ i ∧ idxPre h j ∧ idxPre e j ∧ i ∧ (List.getD (List.getD g b d) a false = true → i ∧ i ∧ (false = trB f ∧ i) ∧ i) ∧ (List.getD (List.getD g b d) a false = false → i ∧ LoopOK X48 L48_4 (hc48 f a b) (bodyR (0 : Nat) (xb48 f a) (bodyR (0 : Nat) (xa48 f) (R48 f))) ∧ (∃ (y : Nat), ic48 f a b y ∧ (i ∧ e = e ∧ h = h ∧ e = e ∧ h = h ∧ (0 : Int) = (y : Int) ∧ i) ∧ g = g ∧ i) ∧ (∀ (y : Unit), tcC f a b j → c) ∧ i))) ∧ (¬h < 7 → ∃ (y : Unit), tcB f a j ∧ (i ∧ e = e ∧ i) ∧ g = g ∧ i)) (inR .i64 (h + 1) ∧ i ∧ ∃ (y : Nat), (ib48 f a y ∧ j - y < j - b) ∧ (i ∧ e = e ∧ e = e ∧ h + 1 = (y : Int) ∧ i) ∧ g = g ∧ i)) (!List.getD (List.getD g a d) b false)) ([false, false, false, false, false, false, false])) ((a : Int))) (mkR f)) ((b : Int))) (True)) ((7 : Nat))) (by kernel_rfl) ?_
 simp only [zz]
 obtain ⟨b1, b2⟩ := hb
 have next : b < 7 → (f a b = true → f b a = false ∧ tcC f a b 7) → inR .i64 ((b : Int) + 1) ∧ ∃ y : Nat, (ib48 f a y ∧ 7 - y < 7 - b) ∧ (b : Int) + 1 = (y : Int) := fun h1 h2 => ⟨by simp only [inR]; omega, b + 1, ⟨⟨by omega, fun z hz hz2 => by
   by_cases e : z = b
   · subst e; exact h2 hz2
   · exact b2 z (by omega) hz2⟩, by omega⟩, by omega⟩
 refine ⟨fun h1 => ?_, fun h1 => by rwa [show b = 7 by omega] at b2⟩
 have h1 : b < 7 := by omega
 rw [rel_get f ha h1, rel_get f h1 ha]
 refine ⟨by unfold idxPre; omega, by unfold idxPre; omega, (fun h2 => next h1 fun h3 => by rw [h3] at h2; cases h2), fun h2 => ?_⟩
 have h2 : f a b = true := by simpa using h2
 refine ⟨by unfold idxPre; omega, by unfold idxPre; omega, fun h3 => (tc_no ha h1 h2 (.inl h3)).symm, fun h3 => ⟨hL h1 h2, ⟨0, ⟨Nat.zero_le _, fun z hz => absurd hz (Nat.not_lt_zero _)⟩, rfl⟩, fun _ h4 => next h1 fun _ => ⟨h3, h4⟩⟩⟩
theorem loop48a (f : Nat → Nat → Bool) : LoopOK X48 L48_0 (ha48 f) (R48 f) := by
 refine loop_ok (X_ok _) (H := fun a _ => some (hb48 f a)) [1, 6] (ia48 f) (sa48 f) (fun a => 7 - a) (xa48 f) 150 fun (a : Nat) ha => ?_
 have hL := fun h1 => loop48b f a h1 (bodyR 0 (xa48 f) (R48 f)) rfl
 refine of_eq (q := (fun (c : Prop) => (fun (b : Int) => c ∧ (b < 7 → c ∧ c ∧ c ∧ LoopOK X48 L48_2 (hb48 f a) (bodyR (0 : Nat) (xa48 f) (R48 f)) ∧ (∃ (y : Nat), ib48 f a y ∧ (c ∧ b = b ∧ b = b ∧ (0 : Int) = (y : Int) ∧ c) ∧ mkR f = mkR f ∧ c) ∧ (∀ (y : Unit), tcB f a (7 : Nat) → inR .i64 (b + 1) ∧ c ∧ ∃ (y : Nat), (ia48 f y ∧ (7 : Nat) - y < 7 - a) ∧ (c ∧ b + 1 = (y : Int) ∧ c) ∧ mkR f = mkR f ∧ c) ∧ c) ∧ (¬b < 7 → ∃ (y : Unit), tcA f (7 : Nat) ∧ c ∧ c)) ((a : Int))) (True)) (by kernel_rfl) ?_
 simp only [zz]
 obtain ⟨a1, a2⟩ := ha
 refine ⟨fun h1 => ⟨hL (by omega), ⟨0, ⟨Nat.zero_le _, fun z hz => absurd hz (Nat.not_lt_zero _)⟩, rfl⟩, fun _ h2 => ⟨by simp only [inR]; omega, a + 1, ⟨⟨by omega, fun z hz => ?_⟩, by omega⟩, by omega⟩⟩, fun h1 => by rwa [show a = 7 by omega] at a2⟩
 by_cases e : z = a
 · subst e; exact h2
 · exact a2 z (by omega)
theorem call48 (f : Nat → Nat → Bool) : GCall Try.prog gl 48 true [.ar Q7 7 (mkR f)] [] [.bool (trB f)] [] := by
 refine gcall_of (X := X48) ((X_ok _)) (f := 48) (fn := Try.f48) (c := bodyOf Try.f48) (by kernel_rfl) (by kernel_rfl) (view := false) (rvs := [.tmp 2]) (by kernel_rfl) (H := (fun _ => some (ha48 f))) 150 (by kernel_rfl) ?_
 have hL := loop48a f
 refine of_eq (q := (fun (a : Prop) => a ∧ a ∧ a ∧ LoopOK X48 L48_0 (ha48 f) (R48 f) ∧ (∃ (y : Nat), ia48 f y ∧ (a ∧ (0 : Int) = (y : Int) ∧ a) ∧ mkR f = mkR f ∧ a) ∧ (∀ (y : Unit), tcA f (7 : Nat) → a ∧ a ∧ (true = trB f ∧ a) ∧ a) ∧ a) (True)) (by kernel_rfl) ?_
 simp only [zz]
 exact ⟨hL, ⟨0, ⟨Nat.zero_le _, fun z hz => absurd hz (Nat.not_lt_zero _)⟩, rfl⟩, fun _ h => (decide_eq_true h).symm⟩
theorem trB_ext {f g : Nat → Nat → Bool} (h : ∀ x y, x < 7 → y < 7 → f x y = g x y) : trB f = trB g := by
 have key : ∀ {f g : Nat → Nat → Bool}, (∀ x y, x < 7 → y < 7 → f x y = g x y) → tcA f 7 → tcA g 7 := fun h hf x hx y hy hg => by
   obtain ⟨h1, h2⟩ := hf x hx y hy (by rw [h x y hx hy]; exact hg)
   refine ⟨by rw [← h y x hy hx]; exact h1, fun z hz hz2 => ?_⟩
   rw [← h x z hx hz]
   exact h2 z hz (by rw [h y z hy hz]; exact hz2)
 exact decide_eq_decide.mpr ⟨key h, key fun x y hx hy => (h x y hx hy).symm⟩
abbrev R7 : Ty := .ar 7 Q7
def e48 : Entry Try.prog gl := entry1 48 ⟨Try.f48, by kernel_rfl, by kernel_rfl, by kernel_rfl⟩ R7 (fun xs => (xs : Rl) = mkR (rg xs)) true (fun xs => [.bool (trB (rg xs))]) (fun _ => []) (fun xs h => by
 have := call48 (rg xs)
 rw [← h] at this
 exact this)
end Go.Am.Or

/- Orders: the pairs of a relation, rising. -/
namespace Go.Am.Or
open Go Go.Am Go.Proofs
abbrev nl : AV := .vv (.slice none 0 0)
/-- The first pairs of rows of width w for which P holds. -/
def prK (P : Nat → Nat → Bool) (w : Nat) : Nat → LP
 | 0 => []
 | q + 1 => if P (q / w) (q % w) = true then prK P w q ++ [(((q / w : Nat) : Int), ((q % w : Nat) : Int))] else prK P w q
theorem prK_len (P : Nat → Nat → Bool) (w : Nat) : ∀ q, (prK P w q).length ≤ q
 | 0 => Nat.le_refl _
 | q + 1 => by
   have := prK_len P w q
   rw [prK]; split
   · rw [List.length_append, List.length_singleton]; omega
   · omega
theorem prK_step {P : Nat → Nat → Bool} {w i j : Nat} (hj : j < w) : prK P w (i * w + (j + 1)) = if P i j = true then prK P w (i * w + j) ++ [((i : Int), (j : Int))] else prK P w (i * w + j) := by
 have e1 : (i * w + j) / w = i := by rw [Nat.mul_comm, Nat.mul_add_div (by omega), Nat.div_eq_of_lt hj, Nat.add_zero]
 have e2 : (i * w + j) % w = j := by rw [Nat.mul_comm, Nat.mul_add_mod, Nat.mod_eq_of_lt hj]
 rw [← Nat.add_assoc, prK, e1, e2]
noncomputable def L61_0 : Code := lp (bodyOf Try.f61) 0
noncomputable def L61_2 : Code := lp (bodyOf Try.f61) 2
def az61 (f : Nat → Nat → Bool) (a : Nat) : St := ⟨.dead :: .ptr 0 0 [] :: .dead :: nl :: dd 2 ++ .int .i64 a :: dd 19, [relO f]⟩
def at61 (f : Nat → Nat → Bool) (a : Nat) : St := ⟨.dead :: .ptr 0 0 [] :: .dead :: .own 1 0 :: dd 2 ++ .int .i64 a :: dd 19, [relO f, .sc 0 52 P2 (prK f 7 (a * 7))]⟩
def bz61 (f : Nat → Nat → Bool) (a b : Nat) : St := ⟨.dead :: .ptr 0 0 [] :: .dead :: nl :: .int .i64 a :: .dead :: .int .i64 a :: dd 2 ++ .int .i64 b :: dd 16, [relO f]⟩
def bt61 (f : Nat → Nat → Bool) (a b : Nat) : St := ⟨.dead :: .ptr 0 0 [] :: .dead :: .own 1 0 :: .int .i64 a :: .dead :: .int .i64 a :: dd 2 ++ .int .i64 b :: dd 16, [relO f, .sc 0 52 P2 (prK f 7 (a * 7 + b))]⟩
def fb61 (f : Nat → Nat → Bool) (a : Nat) : List Fam := [⟨Nat, fun b => b ≤ 7 ∧ prK f 7 (a * 7 + b) = [], bz61 f a, fun b => 7 - b, fun _ _ => none⟩, ⟨Nat, fun b => b ≤ 7, bt61 f a, fun b => 7 - b, fun _ _ => none⟩]
def xb61 (f : Nat → Nat → Bool) (a : Nat) : List (List Nat × Ex) := [([1, 3, 6], ⟨2, Unit, fun _ => prK f 7 (a * 7 + 7) = [], fun _ => az61 f a⟩), ([1, 3, 6], ⟨2, Unit, fun _ => True, fun _ => ⟨.dead :: .ptr 0 0 [] :: .dead :: .own 1 0 :: dd 2 ++ .int .i64 a :: dd 19, [relO f, .sc 0 52 P2 (prK f 7 (a * 7 + 7))]⟩⟩)]
def hb61 (f : Nat → Nat → Bool) (a : Nat) : Hint := ⟨chks 0 [1, 3, 4, 6, 9] (fb61 f a), (xb61 f a).map (·.2)⟩
theorem loop61b (f : Nat → Nat → Bool) (a : Nat) (ha : a < 7) (R : Exit → St → Prop) : LoopOK (X []) L61_2 (hb61 f a) R := by
 refine loop_fams (X_ok _) [1, 3, 4, 6, 9] (fb61 f a) (xb61 f a) 150 ⟨fun (b : Nat) hb => ?_, fun (b : Nat) hb => ?_, trivial⟩
 · refine of_eq (q := (fun (j : Int) => (fun (i : Prop) => (fun (h : Int) => (fun (e : Rl) => (fun (d : Nat) => (fun (g : Bool) => (fun (c : Int) => (fun (k : Prop) => i ∧ (j < 7 → i ∧ i ∧ i ∧ i ∧ idxPre c d ∧ idxPre j d ∧ i ∧ (g = true → i ∧ i ∧ i ∧ i ∧ i ∧ sumPre (0 : Nat) [(c, j)].length (nat_lit 16) ∧ i ∧ inR .i64 h ∧ i ∧ ((∃ (y : Nat), ((y ≤ d ∧ prK f d (a * d + y) = []) ∧ d - y < d - b) ∧ (i ∧ False ∧ k ∧ k ∧ h = (y : Int) ∧ i) ∧ e = e ∧ i) ∨ ∃ (y : Nat), (y ≤ d ∧ d - y < d - b) ∧ (i ∧ i ∧ k ∧ k ∧ h = (y : Int) ∧ i) ∧ e = e ∧ [(c, j)] = prK f d (a * d + y) ∧ i)) ∧ (g = false → inR .i64 h ∧ i ∧ ((∃ (y : Nat), ((y ≤ d ∧ prK f d (a * d + y) = []) ∧ d - y < d - b) ∧ (i ∧ i ∧ k ∧ k ∧ h = (y : Int) ∧ i) ∧ e = e ∧ i) ∨ ∃ (y : Nat), (y ≤ d ∧ d - y < d - b) ∧ (i ∧ False ∧ k ∧ k ∧ h = (y : Int) ∧ i) ∧ e = e ∧ False))) ∧ (¬j < 7 → (∃ (y : Unit), prK f d (a * d + d) = [] ∧ (i ∧ i ∧ k ∧ i) ∧ e = e ∧ i) ∨ ∃ (y : Unit), i ∧ (i ∧ False ∧ k ∧ i) ∧ e = e ∧ False)) (c = c)) ((a : Int))) (List.getD (List.getD e a [false, false, false, false, false, false, false]) b false)) ((7 : Nat))) (mkR f)) (j + 1)) (True)) ((b : Int))) (by kernel_rfl) ?_
   simp only [zz]
   obtain ⟨b1, b2⟩ := hb
   refine ⟨fun h1 => ?_, fun h1 => by rwa [show b = 7 by omega] at b2⟩
   have h1 : b < 7 := by omega
   have hst := prK_step (P := f) (i := a) h1
   rw [rel_get f ha h1]
   refine ⟨by unfold idxPre; omega, by unfold idxPre; omega, fun h2 => ⟨by unfold sumPre; simp, by simp only [inR]; omega, b + 1, ⟨by omega, by omega⟩, by omega, ?_⟩, fun h2 => ⟨by simp only [inR]; omega, b + 1, ⟨⟨by omega, ?_⟩, by omega⟩, by omega⟩⟩
   · rw [hst, if_pos h2, b2]; try rfl
   · rw [hst, if_neg (by rw [h2]; decide)]; exact b2
 · refine of_eq (q := (fun (j : Prop) => (fun (i : Int) => (fun (l : Int) => (fun (g : Rl) => (fun (e : Int) => (fun (m : Prop) => (fun (d : Nat) => (fun (k : LP) => (fun (h : Bool) => (fun (c : Prop) => j ∧ (i < 7 → j ∧ j ∧ j ∧ j ∧ idxPre e d ∧ idxPre i d ∧ j ∧ (h = true → j ∧ j ∧ j ∧ j ∧ j ∧ sumPre (List.length k) [(e, i)].length (nat_lit 16) ∧ j ∧ inR .i64 l ∧ j ∧ (c ∨ ∃ (y : Nat), (y ≤ d ∧ d - y < d - b) ∧ (j ∧ j ∧ m ∧ m ∧ l = (y : Int) ∧ j) ∧ g = g ∧ k ++ [(e, i)] = prK f d (a * d + y) ∧ j)) ∧ (h = false → inR .i64 l ∧ j ∧ (c ∨ ∃ (y : Nat), (y ≤ d ∧ d - y < d - b) ∧ (j ∧ j ∧ m ∧ m ∧ l = (y : Int) ∧ j) ∧ g = g ∧ k = prK f d (a * d + y) ∧ j))) ∧ (¬i < 7 → (∃ (y : Unit), prK f d (a * d + d) = [] ∧ (j ∧ False ∧ m ∧ j) ∧ g = g ∧ j) ∨ ∃ (y : Unit), j ∧ (j ∧ j ∧ m ∧ j) ∧ g = g ∧ k = prK f d (a * d + d) ∧ j)) (∃ (y : Nat), ((y ≤ d ∧ prK f d (a * d + y) = []) ∧ d - y < d - b) ∧ (j ∧ False ∧ m ∧ m ∧ l = (y : Int) ∧ j) ∧ g = g ∧ j)) (List.getD (List.getD g a [false, false, false, false, false, false, false]) b false)) (prK f d (a * d + b))) ((7 : Nat))) (e = e)) ((a : Int))) (mkR f)) (i + 1)) ((b : Int))) (True)) (by kernel_rfl) ?_
   simp only [zz]
   have b1 : b ≤ 7 := hb
   have hlen := prK_len f 7 (a * 7 + b)
   refine ⟨fun h1 => ?_, fun h1 => by rw [show b = 7 by omega]⟩
   have h1 : b < 7 := by omega
   have hst := prK_step (P := f) (i := a) h1
   rw [rel_get f ha h1]
   refine ⟨by unfold idxPre; omega, by unfold idxPre; omega, fun h2 => ⟨by unfold sumPre; simp; omega, by simp only [inR]; omega, b + 1, ⟨by omega, by omega⟩, by omega, ?_⟩, fun h2 => ⟨by simp only [inR]; omega, b + 1, ⟨by omega, by omega⟩, by omega, ?_⟩⟩
   · rw [hst, if_pos h2] <;> rfl
   · rw [hst, if_neg (by rw [h2]; decide)]
def fa61 (f : Nat → Nat → Bool) : List Fam := [⟨Nat, fun a => a ≤ 7 ∧ prK f 7 (a * 7) = [], az61 f, fun a => 7 - a, fun a _ => some (hb61 f a)⟩, ⟨Nat, fun a => a ≤ 7, at61 f, fun a => 7 - a, fun a _ => some (hb61 f a)⟩]
def xa61 (f : Nat → Nat → Bool) : List (List Nat × Ex) := [([3], ⟨0, Unit, fun _ => prK f 7 49 = [], fun _ => ⟨dd 3 ++ nl :: dd 22, []⟩⟩), ([3], ⟨0, Unit, fun _ => True, fun _ => ⟨dd 3 ++ .own 0 0 :: dd 22, [.sc 0 52 P2 (prK f 7 49)]⟩⟩)]
def ha61 (f : Nat → Nat → Bool) : Hint := ⟨chks 0 [1, 3, 6] (fa61 f), (xa61 f).map (·.2)⟩
theorem loop61a (f : Nat → Nat → Bool) (R : Exit → St → Prop) : LoopOK (X []) L61_0 (ha61 f) R := by
 refine loop_fams (X_ok _) [1, 3, 6] (fa61 f) (xa61 f) 150 ⟨fun (a : Nat) ha => ?_, fun (a : Nat) ha => ?_, trivial⟩
 · have hL := fun h1 => loop61b f a h1 (bodyR 0 (xa61 f) R)
   refine of_eq (q := (fun (e : Prop) => (fun (c : Int) => (fun (g : Int) => (fun (b : Nat) => (fun (d : Prop) => e ∧ (c < 7 → e ∧ e ∧ e ∧ LoopOK (X []) L61_2 (hb61 f a) (bodyR (0 : Nat) (xa61 f) R) ∧ ((∃ (y : Nat), (y ≤ b ∧ prK f b (a * b + y) = []) ∧ (e ∧ e ∧ c = c ∧ c = c ∧ (0 : Int) = (y : Int) ∧ e) ∧ d ∧ e) ∨ ∃ (y : Nat), y ≤ b ∧ (e ∧ False ∧ c = c ∧ c = c ∧ (0 : Int) = (y : Int) ∧ e) ∧ d ∧ False) ∧ (∀ (y : Unit), prK f b (a * b + b) = [] → inR .i64 g ∧ e ∧ ((∃ (y : Nat), ((y ≤ b ∧ prK f b (y * b) = []) ∧ b - y < b - a) ∧ (e ∧ e ∧ g = (y : Int) ∧ e) ∧ d ∧ e) ∨ ∃ (y : Nat), (y ≤ b ∧ b - y < b - a) ∧ (e ∧ False ∧ g = (y : Int) ∧ e) ∧ d ∧ False)) ∧ (∀ (y : Unit), e → inR .i64 g ∧ e ∧ ((∃ (y : Nat), ((y ≤ b ∧ prK f b (y * b) = []) ∧ b - y < b - a) ∧ (e ∧ False ∧ g = (y : Int) ∧ e) ∧ d ∧ e) ∨ ∃ (y : Nat), (y ≤ b ∧ b - y < b - a) ∧ (e ∧ e ∧ g = (y : Int) ∧ e) ∧ d ∧ prK f b (a * b + b) = prK f b (y * b) ∧ e)) ∧ e) ∧ (¬c < 7 → (∃ (y : Unit), prK f b (49 : Nat) = [] ∧ (e ∧ e) ∧ e) ∨ ∃ (y : Unit), e ∧ (False ∧ e) ∧ False)) (mkR f = mkR f)) ((7 : Nat))) (c + 1)) ((a : Int))) (True)) (by kernel_rfl) ?_
   simp only [zz]
   obtain ⟨a1, a2⟩ := ha
   refine ⟨fun h1 => ⟨hL (by omega), ⟨0, ⟨Nat.zero_le _, a2⟩, rfl⟩, fun _ h2 => ⟨by simp only [inR]; omega, a + 1, ⟨⟨by omega, by rw [Nat.succ_mul]; exact h2⟩, by omega⟩, by omega⟩, fun _ _ => ⟨by simp only [inR]; omega, a + 1, ⟨by omega, by omega⟩, by omega, by rw [Nat.succ_mul]⟩⟩, fun h1 => by rwa [show a = 7 by omega] at a2⟩
 · have hL := fun h1 => loop61b f a h1 (bodyR 0 (xa61 f) R)
   refine of_eq (q := (fun (e : Prop) => (fun (c : Int) => (fun (g : Int) => (fun (b : Nat) => (fun (d : Prop) => e ∧ (c < 7 → e ∧ e ∧ e ∧ LoopOK (X []) L61_2 (hb61 f a) (bodyR (0 : Nat) (xa61 f) R) ∧ ((∃ (y : Nat), (y ≤ b ∧ prK f b (a * b + y) = []) ∧ (e ∧ False ∧ c = c ∧ c = c ∧ (0 : Int) = (y : Int) ∧ e) ∧ d ∧ e) ∨ ∃ (y : Nat), y ≤ b ∧ (e ∧ e ∧ c = c ∧ c = c ∧ (0 : Int) = (y : Int) ∧ e) ∧ d ∧ prK f b (a * b) = prK f b (a * b + y) ∧ e) ∧ (∀ (y : Unit), prK f b (a * b + b) = [] → inR .i64 g ∧ e ∧ ((∃ (y : Nat), ((y ≤ b ∧ prK f b (y * b) = []) ∧ b - y < b - a) ∧ (e ∧ e ∧ g = (y : Int) ∧ e) ∧ d ∧ e) ∨ ∃ (y : Nat), (y ≤ b ∧ b - y < b - a) ∧ (e ∧ False ∧ g = (y : Int) ∧ e) ∧ d ∧ False)) ∧ (∀ (y : Unit), e → inR .i64 g ∧ e ∧ ((∃ (y : Nat), ((y ≤ b ∧ prK f b (y * b) = []) ∧ b - y < b - a) ∧ (e ∧ False ∧ g = (y : Int) ∧ e) ∧ d ∧ e) ∨ ∃ (y : Nat), (y ≤ b ∧ b - y < b - a) ∧ (e ∧ e ∧ g = (y : Int) ∧ e) ∧ d ∧ prK f b (a * b + b) = prK f b (y * b) ∧ e)) ∧ e) ∧ (¬c < 7 → (∃ (y : Unit), prK f b (49 : Nat) = [] ∧ (False ∧ e) ∧ e) ∨ ∃ (y : Unit), e ∧ (e ∧ e) ∧ prK f b (a * b) = prK f b (49 : Nat) ∧ e)) (mkR f = mkR f)) ((7 : Nat))) (c + 1)) ((a : Int))) (True)) (by kernel_rfl) ?_
   simp only [zz]
   have a1 : a ≤ 7 := ha
   refine ⟨fun h1 => ⟨hL (by omega), ⟨0, Nat.zero_le _, rfl, rfl⟩, fun _ h2 => ⟨by simp only [inR]; omega, a + 1, ⟨⟨by omega, by rw [Nat.succ_mul]; exact h2⟩, by omega⟩, by omega⟩, fun _ _ => ⟨by simp only [inR]; omega, a + 1, ⟨by omega, by omega⟩, by omega, by rw [Nat.succ_mul]⟩⟩, fun h1 => by rw [show a = 7 by omega]⟩
theorem call61 (f : Nat → Nat → Bool) : GCall Try.prog gl 61 true [.ar Q7 7 (mkR f)] [] [.sl P2 (prK f 7 49)] [] := by
 refine gcall_of (X := X []) (X_ok []) (f := 61) (fn := Try.f61) (c := bodyOf Try.f61) (by kernel_rfl) (by kernel_rfl) (view := true) (rvs := [.tmp 2]) (by kernel_rfl) (H := (fun _ => some (ha61 f))) 150 (by kernel_rfl) ?_
 have hL := loop61a f
 refine of_eq (q := (fun (c : Nat) => (fun (b : Prop) => (fun (a : LP) => b ∧ b ∧ b ∧ b ∧ LoopOK (X []) L61_0 (ha61 f) (RetR (X []) true true [ResultVar.tmp (2 : Tmp)] [AV.sl P2 a] []) ∧ ((∃ (y : Nat), (y ≤ c ∧ prK f c (y * c) = []) ∧ (b ∧ b ∧ (0 : Int) = (y : Int) ∧ b) ∧ mkR f = mkR f ∧ b) ∨ ∃ (y : Nat), y ≤ c ∧ (b ∧ False ∧ (0 : Int) = (y : Int) ∧ b) ∧ mkR f = mkR f ∧ False) ∧ (∀ (y : Unit), a = [] → b ∧ b ∧ b ∧ (([] : List (Int × Int)) = a ∧ b) ∧ b) ∧ (∀ (y : Unit), b → b ∧ b ∧ b ∧ (a = a ∧ b) ∧ b) ∧ b) (prK f c (49 : Nat))) (True)) ((7 : Nat))) (by kernel_rfl) ?_
 simp only [zz]
 exact ⟨hL _, ⟨0, ⟨Nat.zero_le _, rfl⟩, rfl⟩, fun _ h => h.symm, fun _ _ => trivial⟩
theorem prK_ext {P Q : Nat → Nat → Bool} {w : Nat} (h : ∀ x y, x < w → y < w → P x y = Q x y) : ∀ q, q ≤ w * w → prK P w q = prK Q w q
 | 0, _ => rfl
 | q + 1, hq => by
   have hw : 0 < w := by
     rcases Nat.eq_zero_or_pos w with e | e
     · rw [e] at hq; omega
     · exact e
   rw [prK, prK, prK_ext h q (by omega), h _ _ (Nat.div_lt_of_lt_mul (by omega)) (Nat.mod_lt _ hw)]
def e61 : Entry Try.prog gl := entry1 61 ⟨Try.f61, by kernel_rfl, by kernel_rfl, by kernel_rfl⟩ R7 (fun xs => (xs : Rl) = mkR (rg xs)) true (fun xs => [.sl P2 (prK (rg xs) 7 49)]) (fun _ => []) (fun xs h => by
 have := call61 (rg xs)
 rw [← h] at this
 exact this)
end Go.Am.Or

/- Orders: relations turned and joined. -/
namespace Go.Am.Or
open Go Go.Am Go.Proofs
/-- The first entries of a relation, row by row. -/
def prt (f : Nat → Nat → Bool) (w q x y : Nat) : Bool := decide (x * w + y < q) && f x y
def sw (f : Nat → Nat → Bool) (x y : Nat) : Bool := f y x
theorem sw_step {f : Nat → Nat → Bool} {a b : Nat} (ha : a < 7) (hb : b < 7) : mkR (upd (sw (prt f 7 (a * 7 + b))) b a (f a b)) = mkR (sw (prt f 7 (a * 7 + (b + 1)))) := by
 refine mkR_ext fun x y hx hy => ?_
 unfold upd sw prt
 by_cases e : x = b ∧ y = a
 · obtain ⟨rfl, rfl⟩ := e
   rw [if_pos ⟨rfl, rfl⟩, decide_eq_true (by omega)]; try rfl
 · rw [if_neg e]
   congr 1
   exact decide_eq_decide.mpr (by omega)
theorem sw_all (f : Nat → Nat → Bool) : mkR (sw (prt f 7 49)) = mkR (sw f) := mkR_ext fun x y hx hy => by
 unfold sw prt; rw [decide_eq_true (by omega)]; try rfl
theorem sw_zero (f : Nat → Nat → Bool) : mkR (sw (prt f 7 0)) = mkR fun _ _ => false := mkR_ext fun x y _ _ => by simp [prt, sw]
theorem i7 {i : Nat} (h : i < 7) : idxPre (i : Int) 7 := by unfold idxPre; omega
theorem in1 {i : Nat} (h : i < 1000) : inR .i64 ((i : Int) + 1) := by simp only [inR]; omega
theorem zR : (mkR fun _ _ => false) = [w7, w7, w7, w7, w7, w7, w7] := rfl
noncomputable def L56_0 : Code := lp (bodyOf Try.f56) 0
noncomputable def L56_2 : Code := lp (bodyOf Try.f56) 2
def sa56 (f : Nat → Nat → Bool) (a : Nat) : St := ⟨(.dead :: .ptr 0 0 [] :: .ptr 1 0 [] :: .ptr 2 0 [] :: dd 2 ++ .int .i64 a :: dd 17), [relO f, relO fun _ _ => false, relO (sw (prt f 7 (a * 7)))]⟩
def sb56 (f : Nat → Nat → Bool) (a b : Nat) : St := ⟨(.dead :: .ptr 0 0 [] :: .ptr 1 0 [] :: .ptr 2 0 [] :: .int .i64 a :: .dead :: .int .i64 a :: dd 2 ++ .int .i64 b :: dd 14), [relO f, relO fun _ _ => false, relO (sw (prt f 7 (a * 7 + b)))]⟩
def xa56 (f : Nat → Nat → Bool) : List (List Nat × Ex) := [([2, 3], ⟨0, Unit, fun _ => True, fun _ => ⟨(dd 2 ++ .ptr 0 0 [] :: .ptr 1 0 [] :: dd 20), [relO fun _ _ => false, relO (sw f)]⟩⟩)]
def ha56 (f : Nat → Nat → Bool) : Hint := ⟨chk 0 [1, 2, 3, 6] (fun a => a ≤ 7) (sa56 f), (xa56 f).map (·.2)⟩
def xb56 (f : Nat → Nat → Bool) (a : Nat) : List (List Nat × Ex) := [([1, 2, 3, 6], ⟨2, Unit, fun _ => True, fun _ => ⟨(.dead :: .ptr 0 0 [] :: .ptr 1 0 [] :: .ptr 2 0 [] :: dd 2 ++ .int .i64 a :: dd 17), [relO f, relO fun _ _ => false, relO (sw (prt f 7 (a * 7 + 7)))]⟩⟩)]
def hb56 (f : Nat → Nat → Bool) (a : Nat) : Hint := ⟨chk 0 [1, 2, 3, 4, 6, 9] (fun b => b ≤ 7) (sb56 f a), (xb56 f a).map (·.2)⟩
theorem loop56b (f : Nat → Nat → Bool) (a : Nat) (ha : a < 7) (R : Exit → St → Prop) : LoopOK (X []) L56_2 (hb56 f a) R := by
 refine loop_ok (X_ok _) (H := fun _ _ => none) [1, 2, 3, 4, 6, 9] (fun b => b ≤ 7) (sb56 f a) (fun b => 7 - b) (xb56 f a) 150 fun (b : Nat) hb => ?_
 refine of_eq (q := (fun (j : Prop) => (fun (i : Int) => (fun (h : List Bool) => (fun (g : Int) => (fun (e : Nat) => (fun (d : Rl) => (fun (c : Rl) => j ∧ (i < 7 → j ∧ j ∧ j ∧ j ∧ j ∧ j ∧ idxPre g e ∧ idxPre i e ∧ j ∧ idxPre i e ∧ idxPre g e ∧ j ∧ inR .i64 (i + 1) ∧ j ∧ ∃ (y : Nat), (y ≤ e ∧ e - y < e - b) ∧ (j ∧ j ∧ j ∧ g = g ∧ g = g ∧ i + 1 = (y : Int) ∧ j) ∧ mkR f = mkR f ∧ d = d ∧ List.set c b (List.set (List.getD c b h) a (List.getD (List.getD (mkR f) a h) b false)) = mkR (sw (prt f e (a * e + y))) ∧ j) ∧ (¬i < 7 → ∃ (y : Unit), j ∧ (j ∧ j ∧ j ∧ g = g ∧ j) ∧ mkR f = mkR f ∧ d = d ∧ c = mkR (sw (prt f e (a * e + e))) ∧ j)) (mkR (sw (prt f e (a * e + b))))) (mkR fun (x x_1 : Nat) => false)) ((7 : Nat))) ((a : Int))) ([false, false, false, false, false, false, false])) ((b : Int))) (True)) (by kernel_rfl) ?_
 simp only [zz]
 refine ⟨fun h1 => ?_, fun h1 => by rw [show b = 7 by omega]⟩
 have h1 : b < 7 := by omega
 rw [rel_get f ha h1, mkR_set h1, sw_step ha h1]
 exact ⟨i7 ha, i7 h1, i7 h1, i7 ha, in1 (by omega), b + 1, ⟨by omega, by omega⟩, by omega, rfl⟩
theorem loop56a (f : Nat → Nat → Bool) (R : Exit → St → Prop) : LoopOK (X []) L56_0 (ha56 f) R := by
 refine loop_ok (X_ok _) (H := fun a _ => some (hb56 f a)) [1, 2, 3, 6] (fun a => a ≤ 7) (sa56 f) (fun a => 7 - a) (xa56 f) 150 fun (a : Nat) ha => ?_
 have hL := fun h1 => loop56b f a h1 (bodyR 0 (xa56 f) R)
 refine of_eq (q := (fun (e : Prop) => (fun (d : Int) => (fun (c : Nat) => (fun (b : Rl) => e ∧ (d < 7 → e ∧ e ∧ e ∧ LoopOK (X []) L56_2 (hb56 f a) (bodyR (0 : Nat) (xa56 f) R) ∧ (∃ (y : Nat), y ≤ c ∧ (e ∧ e ∧ e ∧ d = d ∧ d = d ∧ (0 : Int) = (y : Int) ∧ e) ∧ mkR f = mkR f ∧ b = b ∧ mkR (sw (prt f c (a * c))) = mkR (sw (prt f c (a * c + y))) ∧ e) ∧ (∀ (y : Unit), e → inR .i64 (d + 1) ∧ e ∧ ∃ (y : Nat), (y ≤ c ∧ c - y < c - a) ∧ (e ∧ e ∧ e ∧ d + 1 = (y : Int) ∧ e) ∧ mkR f = mkR f ∧ b = b ∧ mkR (sw (prt f c (a * c + c))) = mkR (sw (prt f c (y * c))) ∧ e) ∧ e) ∧ (¬d < 7 → ∃ (y : Unit), e ∧ (e ∧ e ∧ e) ∧ b = b ∧ mkR (sw (prt f c (a * c))) = mkR (sw f) ∧ e)) (mkR fun (x x_1 : Nat) => false)) ((7 : Nat))) ((a : Int))) (True)) (by kernel_rfl) ?_
 simp only [zz]
 refine ⟨fun h1 => ⟨hL (by omega), ⟨0, Nat.zero_le _, rfl, rfl⟩, fun _ _ => ⟨in1 (by omega), a + 1, ⟨by omega, by omega⟩, by omega, by rw [Nat.succ_mul]⟩⟩, fun h1 => ?_⟩
 rw [show a = 7 by omega]; exact sw_all f
theorem call56 (f : Nat → Nat → Bool) : GCall Try.prog gl 56 true [.ar Q7 7 (mkR f)] [] [.ar Q7 7 (mkR (sw f))] [] := by
 refine gcall_of (X := X []) (X_ok []) (f := 56) (fn := Try.f56) (c := bodyOf Try.f56) (by kernel_rfl) (by kernel_rfl) (view := false) (rvs := [.cell 2 71]) (by kernel_rfl) (H := (fun _ => some (ha56 f))) 150 (by kernel_rfl) ?_
 have hL := loop56a f
 refine of_eq (q := (fun (b : Prop) => (fun (a : List Bool) => b ∧ b ∧ b ∧ b ∧ LoopOK (X []) L56_0 (ha56 f) (RetR (X []) true false [ResultVar.cell (2 : Tmp) (71 : TypeId)] [AV.ar Q7 (7 : Nat) (mkR (sw f))] []) ∧ (∃ (y : Nat), y ≤ 7 ∧ (b ∧ b ∧ b ∧ (0 : Int) = (y : Int) ∧ b) ∧ mkR f = mkR f ∧ ([a, a, a, a, a, a, a] = mkR fun (x x_1 : Nat) => false) ∧ [a, a, a, a, a, a, a] = mkR (sw (prt f (7 : Nat) (y * 7))) ∧ b) ∧ (∀ (y : Unit), b → b ∧ b ∧ (b ∧ b) ∧ (mkR (sw f) = mkR (sw f) ∧ b) ∧ b) ∧ b) ([false, false, false, false, false, false, false])) (True)) (by kernel_rfl) ?_
 simp only [zz]
 exact ⟨hL _, ⟨0, Nat.zero_le _, rfl, zR.symm, (sw_zero f).symm⟩, fun _ _ => trivial⟩
theorem e56_of {xs : Rl} (h : xs = mkR (rg xs)) : GCall Try.prog gl 56 true [.ar Q7 7 xs] [] [.ar Q7 7 (mkR (sw (rg xs)))] [] := by
 have := call56 (rg xs)
 rw [← h] at this
 exact this
def e56 : Entry Try.prog gl := entry1 56 ⟨Try.f56, by kernel_rfl, by kernel_rfl, by kernel_rfl⟩ R7 (fun xs => (xs : Rl) = mkR (rg xs)) true (fun xs => [.ar Q7 7 (mkR (sw (rg xs)))]) (fun _ => []) (fun _ h => e56_of h)
def jp (f g : Nat → Nat → Bool) (q x y : Nat) : Bool := f x y || prt g 7 q x y
theorem jp_step {f g : Nat → Nat → Bool} {a b : Nat} (hb : b < 7) : mkR (upd (jp f g (a * 7 + b)) a b (f a b || g a b)) = mkR (jp f g (a * 7 + (b + 1))) := by
 refine mkR_ext fun x y hx hy => ?_
 unfold upd jp prt
 by_cases e : x = a ∧ y = b
 · obtain ⟨rfl, rfl⟩ := e
   rw [if_pos ⟨rfl, rfl⟩, decide_eq_true (by omega)]; try rfl
 · rw [if_neg e]
   congr 2
   exact decide_eq_decide.mpr (by omega)
theorem jp_zero (f g : Nat → Nat → Bool) : mkR (jp f g 0) = mkR f := mkR_ext fun x y _ _ => by simp [jp, prt]
theorem jp_at {f g : Nat → Nat → Bool} {a b : Nat} : jp f g (a * 7 + b) a b = f a b := by simp [jp, prt]
def jo (f g : Nat → Nat → Bool) (x y : Nat) : Bool := f x y || g x y
theorem jp_all (f g : Nat → Nat → Bool) : mkR (jp f g 49) = mkR (jo f g) := mkR_ext fun x y hx hy => by
 unfold jp prt jo; rw [decide_eq_true (by omega)]; try rfl
abbrev RF := Nat → Nat → Bool
def jl : List RF → RF
 | [] => fun _ _ => false
 | f :: l => jo (jl l) f
noncomputable def L54_0 : Code := lp (bodyOf Try.f54) 0
noncomputable def L54_2 : Code := lp (bodyOf Try.f54) 2
noncomputable def L54_4 : Code := lp (bodyOf Try.f54) 4
abbrev Z7 : Ob := relO fun _ _ => false
def so54 (l : List RF) (c : Nat) : St := ⟨(dd 2 ++ .ptr 0 0 [] :: .ptr 1 0 [] :: dd 4 ++ .sl R7 (l.map mkR) :: .int .i64 l.length :: .int .i64 c :: dd 29), [Z7, relO (jl (l.take c).reverse)]⟩
def sa54 (l : List RF) (c : Nat) (f g : RF) (a : Nat) : St := ⟨(dd 2 ++ .ptr 0 0 [] :: .ptr 1 0 [] :: .dead :: .ptr 2 0 [] :: dd 2 ++ .sl R7 (l.map mkR) :: .int .i64 l.length :: .int .i64 c :: dd 3 ++ .int .i64 a :: dd 25), [Z7, relO (jp f g (a * 7)), relO g]⟩
def sb54 (l : List RF) (c : Nat) (f g : RF) (a b : Nat) : St := ⟨(dd 2 ++ .ptr 0 0 [] :: .ptr 1 0 [] :: .dead :: .ptr 2 0 [] :: .int .i64 a :: .dead :: .sl R7 (l.map mkR) :: .int .i64 l.length :: .int .i64 c :: dd 3 ++ .int .i64 a :: dd 2 ++ .int .i64 b :: dd 22), [Z7, relO (jp f g (a * 7 + b)), relO g]⟩
def xo54 (l : List RF) : List (List Nat × Ex) := [([2, 3], ⟨0, Unit, fun _ => True, fun _ => ⟨(dd 2 ++ .ptr 0 0 [] :: .ptr 1 0 [] :: dd 36), [Z7, relO (jl l.reverse)]⟩⟩)]
def ho54 (l : List RF) : Hint := ⟨chk 0 [2, 3, 8, 9, 10] (fun c => c ≤ l.length) (so54 l), (xo54 l).map (·.2)⟩
def xa54 (l : List RF) (c : Nat) (f g : RF) : List (List Nat × Ex) := [([2, 3, 8, 9, 10], ⟨2, Unit, fun _ => True, fun _ => ⟨(dd 2 ++ .ptr 0 0 [] :: .ptr 1 0 [] :: dd 4 ++ .sl R7 (l.map mkR) :: .int .i64 l.length :: .int .i64 c :: dd 29), [Z7, relO (jo f g)]⟩⟩)]
def ha54 (l : List RF) (c : Nat) (f g : RF) : Hint := ⟨chk 0 [2, 3, 5, 8, 9, 10, 14] (fun a => a ≤ 7) (sa54 l c f g), (xa54 l c f g).map (·.2)⟩
def xb54 (l : List RF) (c : Nat) (f g : RF) (a : Nat) : List (List Nat × Ex) := [([2, 3, 5, 8, 9, 10, 14], ⟨4, Unit, fun _ => True, fun _ => ⟨(dd 2 ++ .ptr 0 0 [] :: .ptr 1 0 [] :: .dead :: .ptr 2 0 [] :: dd 2 ++ .sl R7 (l.map mkR) :: .int .i64 l.length :: .int .i64 c :: dd 3 ++ .int .i64 a :: dd 25), [Z7, relO (jp f g (a * 7 + 7)), relO g]⟩⟩)]
def hb54 (l : List RF) (c : Nat) (f g : RF) (a : Nat) : Hint := ⟨chk 0 [2, 3, 5, 6, 8, 9, 10, 14, 17] (fun b => b ≤ 7) (sb54 l c f g a), (xb54 l c f g a).map (·.2)⟩
theorem loop54b (l : List RF) (c : Nat) (f g : RF) (a : Nat) (ha : a < 7) (R : Exit → St → Prop) : LoopOK (X []) L54_4 (hb54 l c f g a) R := by
 refine loop_ok (X_ok _) (H := fun _ _ => none) [2, 3, 5, 6, 8, 9, 10, 14, 17] (fun b => b ≤ 7) (sb54 l c f g a) (fun b => 7 - b) (xb54 l c f g a) 150 fun (b : Nat) hb => ?_
 refine of_eq (q := (fun (r : Int) => (fun (q : Rl) => (fun (p : List Bool) => (fun (o : Int) => (fun (m : Prop) => (fun (k : Int) => (fun (u : Int) => (fun (i : Int) => (fun (h : Nat) => (fun (t : Prop) => (fun (s : Prop) => (fun (n : Prop) => (fun (j : Rl) => (fun (e : Rl) => (fun (d : List Bool) => m ∧ (k < 7 → m ∧ m ∧ m ∧ m ∧ m ∧ m ∧ t ∧ s ∧ m ∧ m ∧ (d.getD b false = true → m ∧ t ∧ s ∧ m ∧ inR .i64 u ∧ m ∧ ∃ (y : Nat), (y ≤ h ∧ h - y < h - b) ∧ (m ∧ m ∧ m ∧ i = i ∧ n ∧ o = o ∧ r = r ∧ i = i ∧ u = (y : Int) ∧ m) ∧ e = e ∧ List.set j a (d.set b true) = mkR (jp f g (a * h + y)) ∧ q = q ∧ m) ∧ (d.getD b false = false → m ∧ m ∧ t ∧ s ∧ m ∧ m ∧ t ∧ s ∧ m ∧ inR .i64 u ∧ m ∧ ∃ (y : Nat), (y ≤ h ∧ h - y < h - b) ∧ (m ∧ m ∧ m ∧ i = i ∧ n ∧ o = o ∧ r = r ∧ i = i ∧ u = (y : Int) ∧ m) ∧ e = e ∧ List.set j a (d.set b (List.getD (List.getD q a p) b false)) = mkR (jp f g (a * h + y)) ∧ q = q ∧ m)) ∧ (¬k < 7 → ∃ (y : Unit), m ∧ (m ∧ m ∧ m ∧ n ∧ o = o ∧ r = r ∧ i = i ∧ m) ∧ e = e ∧ j = mkR (jp f g (a * h + h)) ∧ q = q ∧ m)) (List.getD j a p)) (mkR fun (x x_1 : Nat) => false)) (mkR (jp f g (a * h + b)))) (List.map mkR l = List.map mkR l)) (idxPre k h)) (idxPre i h)) ((7 : Nat))) ((a : Int))) (k + 1)) ((b : Int))) (True)) ((l.length : Int))) ([false, false, false, false, false, false, false])) (mkR g)) ((c : Int))) (by kernel_rfl) ?_
 simp only [zz]
 refine ⟨fun h1 => ?_, fun h1 => by rw [show b = 7 by omega]⟩
 have h1 : b < 7 := by omega
 have hst := jp_step (f := f) (g := g) (a := a) h1
 rw [rel_get _ ha h1, rel_get _ ha h1, jp_at]
 have nx : inR .i64 ((b : Int) + 1) ∧ ∃ y : Nat, (y ≤ 7 ∧ 7 - y < 7 - b) ∧ (b : Int) + 1 = (y : Int) ∧ mkR (jp f g (a * 7 + (b + 1))) = mkR (jp f g (a * 7 + y)) := ⟨in1 (by omega), b + 1, ⟨by omega, by omega⟩, by omega, rfl⟩
 refine ⟨i7 ha, i7 h1, fun hf => ?_, fun hf => ?_⟩
 all_goals rw [hf] at hst
 · rw [Bool.true_or] at hst
   rw [mkR_set ha, hst]
   exact ⟨i7 ha, i7 h1, nx⟩
 · rw [Bool.false_or] at hst
   rw [mkR_set ha, hst]
   exact ⟨i7 ha, i7 h1, i7 ha, i7 h1, nx⟩
theorem loop54a (l : List RF) (c : Nat) (f g : RF) (R : Exit → St → Prop) : LoopOK (X []) L54_2 (ha54 l c f g) R := by
 refine loop_ok (X_ok _) (H := fun a _ => some (hb54 l c f g a)) [2, 3, 5, 8, 9, 10, 14] (fun a => a ≤ 7) (sa54 l c f g) (fun a => 7 - a) (xa54 l c f g) 150 fun (a : Nat) ha => ?_
 have hL := fun h1 => loop54b l c f g a h1 (bodyR 0 (xa54 l c f g) R)
 refine of_eq (q := (fun (k : Int) => (fun (j : Prop) => (fun (i : Nat) => (fun (h : Int) => (fun (e : Int) => (fun (d : Prop) => (fun (b : Rl) => j ∧ (h < 7 → j ∧ j ∧ j ∧ LoopOK (X []) L54_4 (hb54 l c f g a) (bodyR (0 : Nat) (xa54 l c f g) R) ∧ (∃ (y : Nat), y ≤ i ∧ (j ∧ j ∧ j ∧ h = h ∧ d ∧ e = e ∧ k = k ∧ h = h ∧ (0 : Int) = (y : Int) ∧ j) ∧ b = b ∧ mkR (jp f g (a * i)) = mkR (jp f g (a * i + y)) ∧ mkR g = mkR g ∧ j) ∧ (∀ (y : Unit), j → inR .i64 (h + 1) ∧ j ∧ ∃ (y : Nat), (y ≤ i ∧ i - y < i - a) ∧ (j ∧ j ∧ j ∧ d ∧ e = e ∧ k = k ∧ h + 1 = (y : Int) ∧ j) ∧ b = b ∧ mkR (jp f g (a * i + i)) = mkR (jp f g (y * i)) ∧ mkR g = mkR g ∧ j) ∧ j) ∧ (¬h < 7 → ∃ (y : Unit), j ∧ (j ∧ j ∧ d ∧ e = e ∧ k = k ∧ j) ∧ b = b ∧ mkR (jp f g (a * i)) = mkR (jo f g) ∧ j)) (mkR fun (x x_1 : Nat) => false)) (List.map mkR l = List.map mkR l)) ((l.length : Int))) ((a : Int))) ((7 : Nat))) (True)) ((c : Int))) (by kernel_rfl) ?_
 simp only [zz]
 refine ⟨fun h1 => ⟨hL (by omega), ⟨0, Nat.zero_le _, rfl, rfl⟩, fun _ _ => ⟨in1 (by omega), a + 1, ⟨by omega, by omega⟩, by omega, by rw [Nat.succ_mul]⟩⟩, fun h1 => ?_⟩
 rw [show a = 7 by omega]; exact jp_all f g
theorem loop54o (l : List RF) (hl : l.length < 100) (R : Exit → St → Prop) : LoopOK (X []) L54_0 (ho54 l) R := by
 refine loop_ok (X_ok _) (H := fun c _ => some (ha54 l c (jl (l.take c).reverse) (l.getD c fun _ _ => false))) [2, 3, 8, 9, 10] (fun c => c ≤ l.length) (so54 l) (fun c => l.length - c) (xo54 l) 150 fun (c : Nat) hc => ?_
 have hL := fun R => loop54a l c (jl (l.take c).reverse) (l.getD c fun _ _ => false) R
 refine of_eq (q := (fun (h : Prop) => (fun (g : Int) => (fun (f : List RF) => (fun (e : List (List (List Bool))) => (fun (d : Int) => (fun (b : Rl) => (fun (a : List Bool) => h ∧ (g < d → idxPre g e.length ∧ h ∧ h ∧ h ∧ h ∧ LoopOK (X []) L54_2 (ha54 l c (jl f) (l.getD c fun (x x_1 : Nat) => false)) (bodyR (X []).m0 (xo54 l) R) ∧ (∃ (y : Nat), y ≤ 7 ∧ (h ∧ h ∧ h ∧ e = e ∧ d = d ∧ g = g ∧ (0 : Int) = (y : Int) ∧ h) ∧ b = b ∧ mkR (jl f) = mkR (jp (jl f) (l.getD c fun (x x_1 : Nat) => false) (y * 7)) ∧ e.getD c [a, a, a, a, a, a, a] = mkR (l.getD c fun (x x_1 : Nat) => false) ∧ h) ∧ (∀ (y : Unit), h → inR .i64 (g + 1) ∧ h ∧ ∃ (y : Nat), (y ≤ l.length ∧ l.length - y < l.length - c) ∧ (h ∧ h ∧ e = e ∧ d = d ∧ g + 1 = (y : Int) ∧ h) ∧ b = b ∧ mkR (jo (jl f) (l.getD c fun (x x_1 : Nat) => false)) = mkR (jl (List.take y l).reverse) ∧ h) ∧ h) ∧ (¬g < d → ∃ (y : Unit), h ∧ (h ∧ h ∧ h) ∧ b = b ∧ mkR (jl f) = mkR (jl l.reverse) ∧ h)) ([false, false, false, false, false, false, false])) (mkR fun (x x_1 : Nat) => false)) ((l.length : Int))) (List.map mkR l)) ((List.take c l).reverse)) ((c : Int))) (True)) (by kernel_rfl) ?_
 simp only [zz]
 refine ⟨fun h1 => ?_, fun h1 => by rw [List.take_of_length_le (by omega)]⟩
 have h1 : c < l.length := by omega
 have e0 : ∀ z, (l.map mkR).getD c z = mkR (l.getD c fun _ _ => false) := fun z => by rw [getD_lt (by simpa using h1), getD_lt h1, List.getElem_map]
 refine ⟨by unfold idxPre; simp; omega, hL _, ⟨0, Nat.zero_le _, rfl, (jp_zero _ _).symm, e0 _⟩, fun _ _ => ⟨in1 (by omega), c + 1, ⟨by omega, by omega⟩, by omega, ?_⟩⟩
 rw [take_getD (d := fun _ _ => false) h1, List.reverse_append]; try rfl
theorem call54 (l : List RF) (hl : l.length < 100) : GCall Try.prog gl 54 true [.sl R7 (l.map mkR)] [] [.ar Q7 7 (mkR (jl l.reverse))] [] := by
 refine gcall_of (X := X []) (X_ok []) (f := 54) (fn := Try.f54) (c := bodyOf Try.f54) (by kernel_rfl) (by kernel_rfl) (view := false) (rvs := [.cell 2 71]) (by kernel_rfl) (H := (fun _ => some (ho54 l))) 150 (by kernel_rfl) ?_
 have hL := fun R => loop54o l hl R
 refine of_eq (q := (fun (c : Prop) => (fun (b : Rl) => (fun (a : List Bool) => c ∧ c ∧ c ∧ c ∧ c ∧ LoopOK (X []) L54_0 (ho54 l) (RetR (X []) true false [ResultVar.cell (2 : Tmp) (71 : TypeId)] [AV.ar Q7 (7 : Nat) b] []) ∧ (∃ (y : Nat), y ≤ l.length ∧ (c ∧ c ∧ List.map mkR l = List.map mkR l ∧ (↑(List.map mkR l).length : Int) = (l.length : Int) ∧ (0 : Int) = (y : Int) ∧ c) ∧ ([a, a, a, a, a, a, a] = mkR fun (x x_1 : Nat) => false) ∧ [a, a, a, a, a, a, a] = mkR (jl (List.take y l).reverse) ∧ c) ∧ (∀ (y : Unit), c → c ∧ c ∧ (c ∧ c) ∧ (b = b ∧ c) ∧ c) ∧ c) ([false, false, false, false, false, false, false])) (mkR (jl l.reverse))) (True)) (by kernel_rfl) ?_
 simp only [zz]
 exact ⟨hL _, ⟨0, Nat.zero_le _, ⟨by simp, rfl⟩, zR.symm, zR.symm⟩, fun _ _ => trivial⟩
/-- Two relations joined. -/
theorem call54two (f g : RF) : GCall Try.prog gl 54 true [.sl R7 [mkR f, mkR g]] [] [.ar Q7 7 (mkR (jo f g))] [] := by
 have := call54 [f, g] (by simp)
 rwa [show mkR (jl [f, g].reverse) = mkR (jo f g) from mkR_ext fun x y _ _ => by simp [jl, jo]] at this
theorem e54_of {ls : List Rl} (h : ls.length = 2 ∧ ∀ r, r ∈ ls → r = mkR (rg r)) : GCall Try.prog gl 54 true [.sl R7 ls] [] [.ar Q7 7 (mkR (jo (rg (ls.getD 0 [])) (rg (ls.getD 1 []))))] [] := by
 match ls, h with
 | [a, b], h =>
   have := call54two (rg a) (rg b)
   rw [← h.2 a (by simp), ← h.2 b (by simp)] at this
   exact this
def e54 : Entry Try.prog gl := entry1 54 ⟨Try.f54, by kernel_rfl, by kernel_rfl, by kernel_rfl⟩ (.sl R7) (fun ls => (ls : List Rl).length = 2 ∧ ∀ r, r ∈ (ls : List Rl) → r = mkR (rg r)) true (fun ls => [.ar Q7 7 (mkR (jo (rg ((ls : List Rl).getD 0 [])) (rg ((ls : List Rl).getD 1 []))))]) (fun _ => []) (fun _ h => e54_of h)
end Go.Am.Or

/- Orders: the other edges of a graph; its edges and arrows. -/
namespace Go.Am.Or
open Go Go.Am Go.Proofs
def unG : Ob → Option (Int × Rl)
 | .bx (.agg [.int .i64 n, .ar e _ xs]) => (match castL e Q7 xs with
   | some ys => some (n, ys)
   | none => none)
 | _ => none
def grQ (x : Int × Rl) : Ob := .bx (.agg [.int .i64 x.1, .ar Q7 7 x.2])
structure okG (x : Int × Rl) : Prop where
 h : x.2 = mkR (rg x.2)
 n1 : 1 ≤ x.1
 n7 : x.1 ≤ 7
theorem grQ_ok {x : Int × Rl} (h : okG x) : grQ x = grO (x.1.toNat : Int) (rg x.2) := by
 unfold grQ grO
 rw [← h.h, Int.toNat_of_nonneg (by have := h.n1; omega)]
def getG (_ : List AV) (obs : List Ob) : Option (Int × Rl) := unG (obs.getD 0 .gone)
theorem prK_skip {P : Nat → Nat → Bool} {w p : Nat} : ∀ {q : Nat}, p ≤ q → (∀ z, p ≤ z → z < q → P (z / w) (z % w) = false) → prK P w q = prK P w p
 | 0, h, _ => by rw [Nat.le_zero.mp h]
 | q + 1, h, hz => by
   rcases Nat.lt_or_eq_of_le h with h1 | h1
   · rw [prK, hz q (by omega) (by omega), if_neg (by decide)]
     exact prK_skip (by omega) fun z h2 h3 => hz z h2 (by omega)
   · rw [h1]
theorem dm {i j w : Nat} (hj : j < w) : (i * w + j) / w = i ∧ (i * w + j) % w = j :=
 ⟨by rw [Nat.mul_comm, Nat.mul_add_div (by omega), Nat.div_eq_of_lt hj, Nat.add_zero], by rw [Nat.mul_comm, Nat.mul_add_mod, Nat.mod_eq_of_lt hj]⟩
theorem prK_row {P : Nat → Nat → Bool} {i b c : Nat} (hbc : b ≤ c) (hc : c ≤ 7) (h : ∀ j, b ≤ j → j < c → P i j = false) : prK P 7 (i * 7 + c) = prK P 7 (i * 7 + b) :=
 prK_skip (by omega) fun z h1 h2 => by
   have e := dm (i := i) (j := z - i * 7) (w := 7) (by omega)
   rw [show i * 7 + (z - i * 7) = z by omega] at e
   rw [e.1, e.2]; exact h _ (by omega) (by omega)
theorem prK_rows {P : Nat → Nat → Bool} {n : Nat} (hn : n ≤ 7) (h : ∀ i j, n ≤ i → P i j = false) : prK P 7 (n * 7) = prK P 7 49 :=
 (prK_skip (by omega) fun z h1 h2 => h _ _ (by omega)).symm
def otR (n : Nat) (f : RF) (x y : Nat) : Bool := (decide (x < n) && decide (y < n)) && (!decide (x = y) && !f x y)
def pto (n : Nat) (f : RF) (a b x y : Nat) : Bool := decide (x < a ∨ x = a ∧ y < b) && otR n f x y
theorem pto_step {n : Nat} {f : RF} {a b : Nat} (ha : a < n) (hb : b < n) : mkR (upd (pto n f a b) a b (!decide (a = b) && !f a b)) = mkR (pto n f a (b + 1)) := by
 refine mkR_ext fun x y hx hy => ?_
 unfold upd pto
 by_cases e : x = a ∧ y = b
 · obtain ⟨rfl, rfl⟩ := e
   rw [if_pos ⟨rfl, rfl⟩, show decide (x < x ∨ x = x ∧ y < y + 1) = true from decide_eq_true (by omega)]
   unfold otR
   rw [decide_eq_true ha, decide_eq_true hb]; try rfl
 · rw [if_neg e]
   congr 1
   exact decide_eq_decide.mpr (by omega)
theorem pto_row {n : Nat} {f : RF} {a : Nat} : mkR (pto n f a n) = mkR (pto n f (a + 1) 0) := mkR_ext fun x y _ _ => by
 unfold pto otR
 by_cases e : y < n
 · congr 1
   exact decide_eq_decide.mpr (by omega)
 · rw [decide_eq_false e]; simp
theorem pto_zero {n : Nat} {f : RF} : mkR (pto n f 0 0) = mkR fun _ _ => false := mkR_ext fun x y _ _ => by simp [pto]
theorem pto_all {n : Nat} {f : RF} : mkR (pto n f n 0) = mkR (otR n f) := mkR_ext fun x y _ _ => by
 unfold pto otR
 by_cases e : x < n
 · rw [decide_eq_true (.inl e)]; try rfl
 · rw [decide_eq_false e]; simp
noncomputable def L53_0 : Code := lp (bodyOf Try.f53) 0
noncomputable def L53_2 : Code := lp (bodyOf Try.f53) 2
def sa53 (n : Nat) (f : RF) (a : Nat) : St := ⟨(.ptr 0 0 [] :: dd 2 ++ .ptr 1 0 [] :: dd 11 ++ .int .i64 n :: .int .i64 a :: dd 33), [grO n f, grO n (pto n f a 0)]⟩
def sb53 (n : Nat) (f : RF) (a b : Nat) : St := ⟨(.ptr 0 0 [] :: dd 2 ++ .ptr 1 0 [] :: .int .i64 a :: dd 10 ++ .int .i64 n :: .int .i64 a :: dd 5 ++ .int .i64 n :: .int .i64 b :: dd 26), [grO n f, grO n (pto n f a b)]⟩
def xa53 (n : Nat) (f : RF) : List (List Nat × Ex) := [([3], ⟨0, Unit, fun _ => True, fun _ => ⟨(dd 3 ++ .ptr 1 0 [] :: dd 46), [grO n f, grO n (otR n f)]⟩⟩)]
def ha53 (n : Nat) (f : RF) : Hint := ⟨chk 1 [0, 3, 15, 16] (fun a => a ≤ n) (sa53 n f), (xa53 n f).map (·.2)⟩
def xb53 (n : Nat) (f : RF) (a : Nat) : List (List Nat × Ex) := [([0, 3, 15, 16], ⟨2, Unit, fun _ => True, fun _ => ⟨(.ptr 0 0 [] :: dd 2 ++ .ptr 1 0 [] :: dd 11 ++ .int .i64 n :: .int .i64 a :: dd 33), [grO n f, grO n (pto n f a n)]⟩⟩)]
def hb53 (n : Nat) (f : RF) (a : Nat) : Hint := ⟨chk 1 [0, 3, 4, 15, 16, 22, 23] (fun b => b ≤ n) (sb53 n f a), (xb53 n f a).map (·.2)⟩
noncomputable abbrev X1 : Cy := Xm [] 1 (fun _ => none)
theorem loop53b (n : Nat) (hn : n ≤ 7) (f : RF) (a : Nat) (ha : a < n) (R : Exit → St → Prop) : LoopOK X1 L53_2 (hb53 n f a) R := by
 refine loop_ok (Xm_ok _ _ _) (H := fun _ _ => none) [0, 3, 4, 15, 16, 22, 23] (fun b => b ≤ n) (sb53 n f a) (fun b => n - b) (xb53 n f a) 150 fun (b : Nat) hb => ?_
 refine of_eq (q := (fun (i : Int) => (fun (o : Int) => (fun (l : Prop) => (fun (h : Rl) => (fun (g : Prop) => (fun (e : List Bool) => (fun (d : Int) => (fun (k : Prop) => (fun (c : Int) => (fun (m : Prop) => (fun (j : Prop) => g ∧ (i < c → g ∧ g ∧ g ∧ g ∧ g ∧ g ∧ g ∧ g ∧ g ∧ (¬d = i → g ∧ g ∧ g ∧ g ∧ g ∧ k ∧ l ∧ g ∧ g ∧ g ∧ g ∧ g ∧ k ∧ l ∧ g ∧ inR .i64 o ∧ g ∧ ∃ (y : Nat), (y ≤ n ∧ n - y < n - b) ∧ (g ∧ g ∧ d = d ∧ m ∧ d = d ∧ m ∧ o = (y : Int) ∧ g) ∧ j ∧ (m ∧ List.set h a (List.set (List.getD h a e) b !List.getD (List.getD (mkR f) a e) b false) = mkR (pto n f a y) ∧ g) ∧ g) ∧ (¬¬d = i → g ∧ g ∧ g ∧ k ∧ l ∧ g ∧ inR .i64 o ∧ g ∧ ∃ (y : Nat), (y ≤ n ∧ n - y < n - b) ∧ (g ∧ g ∧ d = d ∧ m ∧ d = d ∧ m ∧ o = (y : Int) ∧ g) ∧ j ∧ (m ∧ List.set h a (List.set (List.getD h a e) b false) = mkR (pto n f a y) ∧ g) ∧ g)) ∧ (¬i < c → ∃ (y : Unit), g ∧ (g ∧ g ∧ m ∧ d = d ∧ g) ∧ j ∧ (m ∧ h = mkR (pto n f a n) ∧ g) ∧ g)) (m ∧ mkR f = mkR f ∧ g)) (c = c)) ((n : Int))) (idxPre d (7 : Nat))) ((a : Int))) ([false, false, false, false, false, false, false])) (True)) (mkR (pto n f a b))) (idxPre i (7 : Nat))) (i + 1)) ((b : Int))) (by kernel_rfl) ?_
 simp only [zz]
 refine ⟨fun h1 => ?_, fun h1 => by rw [show b = n by omega]⟩
 have h1 : b < n := by omega
 have hst := pto_step (f := f) ha h1
 have nx : inR .i64 ((b : Int) + 1) ∧ ∃ y : Nat, (y ≤ n ∧ n - y < n - b) ∧ (b : Int) + 1 = (y : Int) ∧ mkR (pto n f a (b + 1)) = mkR (pto n f a y) := ⟨in1 (by omega), b + 1, ⟨by omega, by omega⟩, by omega, rfl⟩
 rw [rel_get f (by omega) (by omega), mkR_set (by omega), mkR_set (by omega)]
 refine ⟨fun h2 => ?_, fun h2 => ?_⟩
 · have e : decide (a = b) = false := decide_eq_false fun e => h2 (by omega)
   rw [e, Bool.not_false, Bool.true_and] at hst
   rw [hst]
   exact ⟨i7 (by omega), i7 (by omega), i7 (by omega), i7 (by omega), nx⟩
 · have e : decide (a = b) = true := decide_eq_true (by omega)
   rw [e, Bool.not_true, Bool.false_and] at hst
   rw [hst]
   exact ⟨i7 (by omega), i7 (by omega), nx⟩
theorem loop53a (n : Nat) (hn : n ≤ 7) (f : RF) (R : Exit → St → Prop) : LoopOK X1 L53_0 (ha53 n f) R := by
 refine loop_ok (Xm_ok _ _ _) (H := fun a _ => some (hb53 n f a)) [0, 3, 15, 16] (fun a => a ≤ n) (sa53 n f) (fun a => n - a) (xa53 n f) 150 fun (a : Nat) ha => ?_
 have hL := fun h1 => loop53b n hn f a h1 (bodyR 1 (xa53 n f) R)
 refine of_eq (q := (fun (e : Prop) => (fun (d : Int) => (fun (b : Int) => (fun (g : Prop) => (fun (c : Prop) => e ∧ (d < b → e ∧ e ∧ e ∧ e ∧ e ∧ e ∧ e ∧ LoopOK X1 L53_2 (hb53 n f a) (bodyR (1 : Nat) (xa53 n f) R) ∧ (∃ (y : Nat), y ≤ n ∧ (e ∧ e ∧ d = d ∧ g ∧ d = d ∧ g ∧ (0 : Int) = (y : Int) ∧ e) ∧ c ∧ (g ∧ mkR (pto n f a (0 : Nat)) = mkR (pto n f a y) ∧ e) ∧ e) ∧ (∀ (y : Unit), e → inR .i64 (d + 1) ∧ e ∧ ∃ (y : Nat), (y ≤ n ∧ n - y < n - a) ∧ (e ∧ e ∧ g ∧ d + 1 = (y : Int) ∧ e) ∧ c ∧ (g ∧ mkR (pto n f a n) = mkR (pto n f y (0 : Nat)) ∧ e) ∧ e) ∧ e) ∧ (¬d < b → ∃ (y : Unit), e ∧ (e ∧ e) ∧ c ∧ (g ∧ mkR (pto n f a (0 : Nat)) = mkR (otR n f) ∧ e) ∧ e)) (g ∧ mkR f = mkR f ∧ e)) (b = b)) ((n : Int))) ((a : Int))) (True)) (by kernel_rfl) ?_
 simp only [zz]
 refine ⟨fun h1 => ⟨hL (by omega), ⟨0, Nat.zero_le _, rfl, rfl⟩, fun _ _ => ⟨in1 (by omega), a + 1, ⟨by omega, by omega⟩, by omega, pto_row⟩⟩, fun h1 => ?_⟩
 rw [show a = n by omega]; exact pto_all
theorem call53 (n : Nat) (hn : n ≤ 7) (f : RF) : GCall Try.prog gl 53 true [.ptr 0 0 []] [grO n f] [.ptr 1 0 []] [grO n f, grO n (otR n f)] := by
 refine gcall_of (X := X1) ((Xm_ok _ _ _)) (f := 53) (fn := Try.f53) (c := bodyOf Try.f53) (by kernel_rfl) (by kernel_rfl) (view := false) (rvs := [.tmp 2]) (by kernel_rfl) (H := (fun _ => some (ha53 n f))) 150 (by kernel_rfl) ?_
 have hL := loop53a n hn f
 refine of_eq (q := (fun (c : Prop) => (fun (b : Int) => (fun (d : Prop) => (fun (a : List Bool) => c ∧ c ∧ c ∧ c ∧ c ∧ c ∧ c ∧ c ∧ c ∧ c ∧ c ∧ c ∧ c ∧ LoopOK X1 L53_0 (ha53 n f) (RetR X1 true false [ResultVar.tmp (2 : Tmp)] [AV.ptr (1 : Nat) (0 : Nat) []] [grO b f, grO b (otR n f)]) ∧ (∃ (y : Nat), y ≤ n ∧ (c ∧ c ∧ b = b ∧ (0 : Int) = (y : Int) ∧ c) ∧ d ∧ (b = b ∧ [a, a, a, a, a, a, a] = mkR (pto n f y (0 : Nat)) ∧ c) ∧ c) ∧ (∀ (y : Unit), c → c ∧ c ∧ c ∧ (c ∧ c) ∧ d ∧ (b = b ∧ mkR (otR n f) = mkR (otR n f) ∧ c) ∧ c) ∧ c) ([false, false, false, false, false, false, false])) (b = b ∧ mkR f = mkR f ∧ c)) ((n : Int))) (True)) (by kernel_rfl) ?_
 simp only [zz]
 exact ⟨hL _, ⟨0, Nat.zero_le _, rfl, zR.symm.trans pto_zero.symm⟩, fun _ _ => trivial⟩
def e53 : Entry Try.prog gl := entryW 53 ⟨Try.f53, by kernel_rfl, by kernel_rfl, by kernel_rfl⟩ true getG okG true (fun _ => [.ptr 0 0 []]) (fun x => [grQ x]) (fun _ => [.ptr 1 0 []]) (fun x => [grQ x, grO (x.1.toNat : Int) (otR x.1.toNat (rg x.2))]) (fun x h => by
 rw [grQ_ok h]; exact call53 _ (by have := h.n7; omega) _)
abbrev AR : Ty := .s2 (.int .i64) (.int .i64)
def P46 (n : Nat) (f : RF) (x y : Nat) : Bool := (decide (x < y) && decide (y < n)) && f x y
def L46 (n : Nat) (f : RF) : LP := prK (P46 n f) 7 49
noncomputable def L46_0 : Code := lp (bodyOf Try.f46) 0
noncomputable def L46_2 : Code := lp (bodyOf Try.f46) 2
def az46 (n : Nat) (f : RF) (a : Nat) : St := ⟨(.ptr 0 0 [] :: dd 2 ++ nl :: dd 5 ++ .int .i64 n :: .int .i64 a :: dd 28), [grO n f]⟩
def at46 (n : Nat) (f : RF) (a : Nat) : St := ⟨(.ptr 0 0 [] :: dd 2 ++ .own 1 0 :: dd 5 ++ .int .i64 n :: .int .i64 a :: dd 28), [grO n f, .sc 0 52 P2 (prK (P46 n f) 7 (a * 7))]⟩
def bz46 (n : Nat) (f : RF) (a b : Nat) : St := ⟨(.ptr 0 0 [] :: dd 2 ++ nl :: .int .i64 a :: .int .i64 b :: dd 3 ++ .int .i64 n :: .int .i64 a :: dd 28), [grO n f]⟩
def bt46 (n : Nat) (f : RF) (a b : Nat) : St := ⟨(.ptr 0 0 [] :: dd 2 ++ .own 1 0 :: .int .i64 a :: .int .i64 b :: dd 3 ++ .int .i64 n :: .int .i64 a :: dd 28), [grO n f, .sc 0 52 P2 (prK (P46 n f) 7 (a * 7 + b))]⟩
def fb46 (n : Nat) (f : RF) (a : Nat) : List Fam := [⟨Nat, fun b => (a < b ∧ b ≤ n) ∧ prK (P46 n f) 7 (a * 7 + b) = [], bz46 n f a, fun b => n - b, fun _ _ => none⟩, ⟨Nat, fun b => a < b ∧ b ≤ n, bt46 n f a, fun b => n - b, fun _ _ => none⟩]
def xb46 (n : Nat) (f : RF) (a : Nat) : List (List Nat × Ex) := [([0, 3, 9, 10], ⟨2, Unit, fun _ => prK (P46 n f) 7 (a * 7 + n) = [], fun _ => az46 n f a⟩), ([0, 3, 9, 10], ⟨2, Unit, fun _ => True, fun _ => ⟨(.ptr 0 0 [] :: dd 2 ++ .own 1 0 :: dd 5 ++ .int .i64 n :: .int .i64 a :: dd 28), [grO n f, .sc 0 52 P2 (prK (P46 n f) 7 (a * 7 + n))]⟩⟩)]
def hb46 (n : Nat) (f : RF) (a : Nat) : Hint := ⟨chks 1 [0, 3, 4, 5, 9, 10] (fb46 n f a), (xb46 n f a).map (·.2)⟩
theorem loop46b (n : Nat) (hn : n ≤ 7) (f : RF) (a : Nat) (ha : a < n) (R : Exit → St → Prop) : LoopOK X1 L46_2 (hb46 n f a) R := by
 refine loop_fams (Xm_ok _ _ _) [0, 3, 4, 5, 9, 10] (fb46 n f a) (xb46 n f a) 150 ⟨fun (b : Nat) hb => ?_, fun (b : Nat) hb => ?_, trivial⟩
 · refine of_eq (q := (fun (l : Int) => (fun (k : Int) => (fun (j : Nat) => (fun (i : Prop) => (fun (h : Int) => (fun (g : Bool) => (fun (e : Int) => (fun (d : Prop) => (fun (c : Prop) => i ∧ i ∧ i ∧ i ∧ i ∧ i ∧ (k < l → i ∧ i ∧ i ∧ i ∧ i ∧ idxPre e j ∧ idxPre k j ∧ i ∧ (g = true → i ∧ i ∧ i ∧ i ∧ i ∧ sumPre (0 : Nat) [(e, k)].length (nat_lit 16) ∧ i ∧ i ∧ inR .i64 h ∧ i ∧ ((∃ (y : Nat), (((a < y ∧ y ≤ n) ∧ prK (P46 n f) j (a * j + y) = []) ∧ n - y < n - b) ∧ (i ∧ False ∧ e = e ∧ h = (y : Int) ∧ d) ∧ c ∧ i) ∨ ∃ (y : Nat), ((a < y ∧ y ≤ n) ∧ n - y < n - b) ∧ (i ∧ i ∧ e = e ∧ h = (y : Int) ∧ d) ∧ c ∧ [(e, k)] = prK (P46 n f) j (a * j + y) ∧ i)) ∧ (g = false → i ∧ inR .i64 h ∧ i ∧ ((∃ (y : Nat), (((a < y ∧ y ≤ n) ∧ prK (P46 n f) j (a * j + y) = []) ∧ n - y < n - b) ∧ (i ∧ i ∧ e = e ∧ h = (y : Int) ∧ d) ∧ c ∧ i) ∨ ∃ (y : Nat), ((a < y ∧ y ≤ n) ∧ n - y < n - b) ∧ (i ∧ False ∧ e = e ∧ h = (y : Int) ∧ d) ∧ c ∧ False))) ∧ (¬k < l → (∃ (y : Unit), prK (P46 n f) j (a * j + n) = [] ∧ (i ∧ i ∧ d) ∧ c ∧ i) ∨ ∃ (y : Unit), i ∧ (i ∧ False ∧ d) ∧ c ∧ False)) (l = l ∧ mkR f = mkR f ∧ i)) (l = l ∧ e = e ∧ i)) ((a : Int))) (List.getD (List.getD (mkR f) a [false, false, false, false, false, false, false]) b false)) (k + 1)) (True)) ((7 : Nat))) ((b : Int))) ((n : Int))) (by kernel_rfl) ?_
   simp only [zz]
   obtain ⟨b1, b2⟩ := hb
   refine ⟨fun h1 => ?_, fun h1 => by rwa [show b = n by omega] at b2⟩
   have h1 : b < n := by omega
   have hst := prK_step (P := P46 n f) (i := a) (j := b) (w := 7) (by omega)
   have hP : P46 n f a b = f a b := by unfold P46; rw [decide_eq_true (show a < b by omega), decide_eq_true h1]; try rfl
   rw [hP] at hst
   rw [rel_get f (by omega) (by omega)]
   refine ⟨i7 (by omega), i7 (by omega), fun h2 => ⟨by unfold sumPre; simp, in1 (by omega), b + 1, ⟨by omega, by omega⟩, by omega, ?_⟩, fun h2 => ⟨in1 (by omega), b + 1, ⟨⟨by omega, ?_⟩, by omega⟩, by omega⟩⟩
   · rw [hst, if_pos h2, b2] <;> rfl
   · rw [hst, if_neg (by rw [h2]; decide)]; exact b2
 · refine of_eq (q := (fun (m : Int) => (fun (l : Nat) => (fun (p : LP) => (fun (k : Int) => (fun (o : Int) => (fun (j : Prop) => (fun (i : Int) => (fun (h : Bool) => (fun (g : LP) => (fun (e : Prop) => (fun (d : Prop) => (fun (c : Prop) => j ∧ j ∧ j ∧ j ∧ j ∧ j ∧ (k < m → j ∧ j ∧ j ∧ j ∧ j ∧ idxPre i l ∧ idxPre k l ∧ j ∧ (h = true → j ∧ j ∧ j ∧ j ∧ j ∧ sumPre (List.length g) [(i, k)].length (nat_lit 16) ∧ j ∧ j ∧ inR .i64 o ∧ j ∧ (c ∨ ∃ (y : Nat), ((a < y ∧ y ≤ n) ∧ n - y < n - b) ∧ (j ∧ j ∧ i = i ∧ o = (y : Int) ∧ e) ∧ d ∧ g ++ [(i, k)] = prK (P46 n f) l (a * l + y) ∧ j)) ∧ (h = false → j ∧ inR .i64 o ∧ j ∧ (c ∨ ∃ (y : Nat), ((a < y ∧ y ≤ n) ∧ n - y < n - b) ∧ (j ∧ j ∧ i = i ∧ o = (y : Int) ∧ e) ∧ d ∧ g = prK (P46 n f) l (a * l + y) ∧ j))) ∧ (¬k < m → (∃ (y : Unit), p = [] ∧ (j ∧ False ∧ e) ∧ d ∧ j) ∨ ∃ (y : Unit), j ∧ (j ∧ j ∧ e) ∧ d ∧ g = p ∧ j)) (∃ (y : Nat), (((a < y ∧ y ≤ n) ∧ prK (P46 n f) l (a * l + y) = []) ∧ n - y < n - b) ∧ (j ∧ False ∧ i = i ∧ o = (y : Int) ∧ e) ∧ d ∧ j)) (m = m ∧ mkR f = mkR f ∧ j)) (m = m ∧ i = i ∧ j)) (prK (P46 n f) l (a * l + b))) (List.getD (List.getD (mkR f) a [false, false, false, false, false, false, false]) b false)) ((a : Int))) (True)) (k + 1)) ((b : Int))) (prK (P46 n f) l (a * l + n))) ((7 : Nat))) ((n : Int))) (by kernel_rfl) ?_
   simp only [zz]
   have b1 : a < b ∧ b ≤ n := hb
   have hlen := prK_len (P46 n f) 7 (a * 7 + b)
   refine ⟨fun h1 => ?_, fun h1 => by rw [show b = n by omega]⟩
   have h1 : b < n := by omega
   have hst := prK_step (P := P46 n f) (i := a) (j := b) (w := 7) (by omega)
   have hP : P46 n f a b = f a b := by unfold P46; rw [decide_eq_true (show a < b by omega), decide_eq_true h1]; try rfl
   rw [hP] at hst
   rw [rel_get f (by omega) (by omega)]
   refine ⟨i7 (by omega), i7 (by omega), fun h2 => ⟨by unfold sumPre; simp; omega, in1 (by omega), b + 1, ⟨by omega, by omega⟩, by omega, ?_⟩, fun h2 => ⟨in1 (by omega), b + 1, ⟨by omega, by omega⟩, by omega, ?_⟩⟩
   · rw [hst, if_pos h2] <;> rfl
   · rw [hst, if_neg (by rw [h2]; decide)]
theorem row46 (n : Nat) (hn : n ≤ 7) (f : RF) (a : Nat) : prK (P46 n f) 7 (a * 7 + n) = prK (P46 n f) 7 ((a + 1) * 7) := by
 rw [Nat.succ_mul]
 exact (prK_row hn (by omega) fun j h1 h2 => by unfold P46; simp; omega).symm
theorem beg46 (n : Nat) (hn : n ≤ 7) (f : RF) (a : Nat) (ha : a < n) : prK (P46 n f) 7 (a * 7) = prK (P46 n f) 7 (a * 7 + (a + 1)) :=
 (prK_row (b := 0) (by omega) (by omega) fun j h1 h2 => by unfold P46; simp; omega).symm
def fa46 (n : Nat) (f : RF) : List Fam := [⟨Nat, fun a => a ≤ n ∧ prK (P46 n f) 7 (a * 7) = [], az46 n f, fun a => n - a, fun a _ => some (hb46 n f a)⟩, ⟨Nat, fun a => a ≤ n, at46 n f, fun a => n - a, fun a _ => some (hb46 n f a)⟩]
def xa46 (n : Nat) (f : RF) : List (List Nat × Ex) := [([3], ⟨0, Unit, fun _ => L46 n f = [], fun _ => ⟨(dd 3 ++ nl :: dd 35), [grO n f]⟩⟩), ([3], ⟨0, Unit, fun _ => True, fun _ => ⟨(dd 3 ++ .own 1 0 :: dd 35), [grO n f, .sc 0 52 P2 (L46 n f)]⟩⟩)]
def ha46 (n : Nat) (f : RF) : Hint := ⟨chks 1 [0, 3, 9, 10] (fa46 n f), (xa46 n f).map (·.2)⟩
theorem all46 (n : Nat) (hn : n ≤ 7) (f : RF) : prK (P46 n f) 7 (n * 7) = L46 n f := prK_rows hn fun i j h => by unfold P46; simp; omega
theorem loop46a (n : Nat) (hn : n ≤ 7) (f : RF) (R : Exit → St → Prop) : LoopOK X1 L46_0 (ha46 n f) R := by
 refine loop_fams (Xm_ok _ _ _) [0, 3, 9, 10] (fa46 n f) (xa46 n f) 150 ⟨fun (a : Nat) ha => ?_, fun (a : Nat) ha => ?_, trivial⟩
 · have hL := fun h1 => loop46b n hn f a h1 (bodyR 1 (xa46 n f) R)
   have hrow := row46 n hn f a
   have hbeg := beg46 n hn f a
   refine of_eq (q := (fun (h : Nat) => (fun (i : LP) => (fun (g : Prop) => (fun (d : Int) => (fun (j : Prop) => (fun (c : Int) => (fun (e : Int) => (fun (b : Prop) => g ∧ (c < d → g ∧ g ∧ g ∧ inR .i64 e ∧ g ∧ LoopOK X1 L46_2 (hb46 n f a) (bodyR (1 : Nat) (xa46 n f) R) ∧ ((∃ (y : Nat), ((a < y ∧ y ≤ n) ∧ prK (P46 n f) h (a * h + y) = []) ∧ (g ∧ g ∧ c = c ∧ e = (y : Int) ∧ j ∧ c = c ∧ g) ∧ b ∧ g) ∨ ∃ (y : Nat), (a < y ∧ y ≤ n) ∧ (g ∧ False ∧ c = c ∧ e = (y : Int) ∧ j ∧ c = c ∧ g) ∧ b ∧ False) ∧ (∀ (y : Unit), i = [] → inR .i64 e ∧ g ∧ ((∃ (y : Nat), ((y ≤ n ∧ prK (P46 n f) h (y * h) = []) ∧ n - y < n - a) ∧ (g ∧ g ∧ j ∧ e = (y : Int) ∧ g) ∧ b ∧ g) ∨ ∃ (y : Nat), (y ≤ n ∧ n - y < n - a) ∧ (g ∧ False ∧ j ∧ e = (y : Int) ∧ g) ∧ b ∧ False)) ∧ (∀ (y : Unit), g → inR .i64 e ∧ g ∧ ((∃ (y : Nat), ((y ≤ n ∧ prK (P46 n f) h (y * h) = []) ∧ n - y < n - a) ∧ (g ∧ False ∧ j ∧ e = (y : Int) ∧ g) ∧ b ∧ g) ∨ ∃ (y : Nat), (y ≤ n ∧ n - y < n - a) ∧ (g ∧ g ∧ j ∧ e = (y : Int) ∧ g) ∧ b ∧ i = prK (P46 n f) h (y * h) ∧ g)) ∧ g) ∧ (¬c < d → (∃ (y : Unit), L46 n f = [] ∧ (g ∧ g) ∧ b ∧ g) ∨ ∃ (y : Unit), g ∧ (False ∧ g) ∧ b ∧ False)) (j ∧ mkR f = mkR f ∧ g)) (c + 1)) ((a : Int))) (d = d)) ((n : Int))) (True)) (prK (P46 n f) h (a * h + n))) ((7 : Nat))) (by kernel_rfl) ?_
   simp only [zz]
   obtain ⟨a1, a2⟩ := ha
   exact ⟨fun h1 => ⟨in1 (by omega), hL (by omega), ⟨a + 1, ⟨⟨by omega, by omega⟩, by rw [← hbeg (by omega)]; exact a2⟩, by omega⟩, fun _ h2 => ⟨in1 (by omega), a + 1, ⟨⟨by omega, by rw [← hrow]; exact h2⟩, by omega⟩, by omega⟩, fun _ _ => ⟨in1 (by omega), a + 1, ⟨by omega, by omega⟩, by omega, hrow⟩⟩, fun h1 => (show a = n by omega) ▸ (all46 n hn f).symm.trans ((show n = a by omega) ▸ a2)⟩
 · have hL := fun h1 => loop46b n hn f a h1 (bodyR 1 (xa46 n f) R)
   have hrow := row46 n hn f a
   have hbeg := beg46 n hn f a
   refine of_eq (q := (fun (h : Prop) => (fun (e : Nat) => (fun (i : LP) => (fun (d : Int) => (fun (j : Prop) => (fun (c : Int) => (fun (g : Int) => (fun (b : Prop) => h ∧ (c < d → h ∧ h ∧ h ∧ inR .i64 g ∧ h ∧ LoopOK X1 L46_2 (hb46 n f a) (bodyR (1 : Nat) (xa46 n f) R) ∧ ((∃ (y : Nat), ((a < y ∧ y ≤ n) ∧ prK (P46 n f) e (a * e + y) = []) ∧ (h ∧ False ∧ c = c ∧ g = (y : Int) ∧ j ∧ c = c ∧ h) ∧ b ∧ h) ∨ ∃ (y : Nat), (a < y ∧ y ≤ n) ∧ (h ∧ h ∧ c = c ∧ g = (y : Int) ∧ j ∧ c = c ∧ h) ∧ b ∧ prK (P46 n f) e (a * e) = prK (P46 n f) e (a * e + y) ∧ h) ∧ (∀ (y : Unit), i = [] → inR .i64 g ∧ h ∧ ((∃ (y : Nat), ((y ≤ n ∧ prK (P46 n f) e (y * e) = []) ∧ n - y < n - a) ∧ (h ∧ h ∧ j ∧ g = (y : Int) ∧ h) ∧ b ∧ h) ∨ ∃ (y : Nat), (y ≤ n ∧ n - y < n - a) ∧ (h ∧ False ∧ j ∧ g = (y : Int) ∧ h) ∧ b ∧ False)) ∧ (∀ (y : Unit), h → inR .i64 g ∧ h ∧ ((∃ (y : Nat), ((y ≤ n ∧ prK (P46 n f) e (y * e) = []) ∧ n - y < n - a) ∧ (h ∧ False ∧ j ∧ g = (y : Int) ∧ h) ∧ b ∧ h) ∨ ∃ (y : Nat), (y ≤ n ∧ n - y < n - a) ∧ (h ∧ h ∧ j ∧ g = (y : Int) ∧ h) ∧ b ∧ i = prK (P46 n f) e (y * e) ∧ h)) ∧ h) ∧ (¬c < d → (∃ (y : Unit), L46 n f = [] ∧ (False ∧ h) ∧ b ∧ h) ∨ ∃ (y : Unit), h ∧ (h ∧ h) ∧ b ∧ prK (P46 n f) e (a * e) = L46 n f ∧ h)) (j ∧ mkR f = mkR f ∧ h)) (c + 1)) ((a : Int))) (d = d)) ((n : Int))) (prK (P46 n f) e (a * e + n))) ((7 : Nat))) (True)) (by kernel_rfl) ?_
   simp only [zz]
   have a1 : a ≤ n := ha
   exact ⟨fun h1 => ⟨in1 (by omega), hL (by omega), ⟨a + 1, ⟨by omega, by omega⟩, by omega, hbeg (by omega)⟩, fun _ h2 => ⟨in1 (by omega), a + 1, ⟨⟨by omega, by rw [← hrow]; exact h2⟩, by omega⟩, by omega⟩, fun _ _ => ⟨in1 (by omega), a + 1, ⟨by omega, by omega⟩, by omega, hrow⟩⟩, fun h1 => by rw [← all46 n hn f, show a = n by omega]⟩
theorem call46 (n : Nat) (hn : n ≤ 7) (f : RF) : GCall Try.prog gl 46 false [.ptr 0 0 []] [grO n f] [.sl P2 (L46 n f)] [grO n f] := by
 refine gcall_of (X := X1) ((Xm_ok _ _ _)) (f := 46) (fn := Try.f46) (c := bodyOf Try.f46) (by kernel_rfl) (by kernel_rfl) (view := true) (rvs := [.tmp 2]) (by kernel_rfl) (H := (fun _ => some (ha46 n f))) 150 (by kernel_rfl) ?_
 have hL := loop46a n hn f
 refine of_eq (q := (fun (d : LP) => (fun (c : Int) => (fun (b : Prop) => (fun (a : Prop) => b ∧ b ∧ b ∧ b ∧ b ∧ b ∧ b ∧ LoopOK X1 L46_0 (ha46 n f) (RetR X1 false true [ResultVar.tmp (2 : Tmp)] [AV.sl P2 d] [grO c f]) ∧ ((∃ (y : Nat), (y ≤ n ∧ prK (P46 n f) (7 : Nat) (y * 7) = []) ∧ (b ∧ b ∧ c = c ∧ (0 : Int) = (y : Int) ∧ b) ∧ a ∧ b) ∨ ∃ (y : Nat), y ≤ n ∧ (b ∧ False ∧ c = c ∧ (0 : Int) = (y : Int) ∧ b) ∧ a ∧ False) ∧ (∀ (y : Unit), d = [] → b ∧ b ∧ b ∧ (([] : List (Int × Int)) = d ∧ b) ∧ a ∧ b) ∧ (∀ (y : Unit), b → b ∧ b ∧ b ∧ (d = d ∧ b) ∧ a ∧ b) ∧ b) (c = c ∧ mkR f = mkR f ∧ b)) (True)) ((n : Int))) (L46 n f)) (by kernel_rfl) ?_
 simp only [zz]
 exact ⟨hL _, ⟨0, ⟨Nat.zero_le _, rfl⟩, rfl⟩, fun _ h => h.symm, fun _ _ => trivial⟩
def e46 : Entry Try.prog gl := entryW 46 ⟨Try.f46, by kernel_rfl, by kernel_rfl, by kernel_rfl⟩ true getG okG false (fun _ => [.ptr 0 0 []]) (fun x => [grQ x]) (fun x => [.sl P2 (L46 x.1.toNat (rg x.2))]) (fun x => [grQ x]) (fun x h => by
 rw [grQ_ok h]; exact call46 _ (by have := h.n7; omega) _)
def P62 (n : Nat) (f : RF) (x y : Nat) : Bool := (decide (x < n) && decide (y < n)) && f x y
def L62 (n : Nat) (f : RF) : LP := prK (P62 n f) 7 49
noncomputable def L62_0 : Code := lp (bodyOf Try.f62) 0
noncomputable def L62_2 : Code := lp (bodyOf Try.f62) 2
def az62 (n : Nat) (f : RF) (a : Nat) : St := ⟨(.ptr 0 0 [] :: dd 2 ++ nl :: dd 5 ++ .int .i64 n :: .int .i64 a :: dd 26), [grO n f]⟩
def at62 (n : Nat) (f : RF) (a : Nat) : St := ⟨(.ptr 0 0 [] :: dd 2 ++ .own 1 0 :: dd 5 ++ .int .i64 n :: .int .i64 a :: dd 26), [grO n f, .sc 0 91 AR (prK (P62 n f) 7 (a * 7))]⟩
def bz62 (n : Nat) (f : RF) (a b : Nat) : St := ⟨(.ptr 0 0 [] :: dd 2 ++ nl :: .int .i64 a :: dd 4 ++ .int .i64 n :: .int .i64 a :: dd 5 ++ .int .i64 n :: .int .i64 b :: dd 19), [grO n f]⟩
def bt62 (n : Nat) (f : RF) (a b : Nat) : St := ⟨(.ptr 0 0 [] :: dd 2 ++ .own 1 0 :: .int .i64 a :: dd 4 ++ .int .i64 n :: .int .i64 a :: dd 5 ++ .int .i64 n :: .int .i64 b :: dd 19), [grO n f, .sc 0 91 AR (prK (P62 n f) 7 (a * 7 + b))]⟩
def fb62 (n : Nat) (f : RF) (a : Nat) : List Fam := [⟨Nat, fun b => (b ≤ n) ∧ prK (P62 n f) 7 (a * 7 + b) = [], bz62 n f a, fun b => n - b, fun _ _ => none⟩, ⟨Nat, fun b => b ≤ n, bt62 n f a, fun b => n - b, fun _ _ => none⟩]
def xb62 (n : Nat) (f : RF) (a : Nat) : List (List Nat × Ex) := [([0, 3, 9, 10], ⟨2, Unit, fun _ => prK (P62 n f) 7 (a * 7 + n) = [], fun _ => az62 n f a⟩), ([0, 3, 9, 10], ⟨2, Unit, fun _ => True, fun _ => ⟨(.ptr 0 0 [] :: dd 2 ++ .own 1 0 :: dd 5 ++ .int .i64 n :: .int .i64 a :: dd 26), [grO n f, .sc 0 91 AR (prK (P62 n f) 7 (a * 7 + n))]⟩⟩)]
def hb62 (n : Nat) (f : RF) (a : Nat) : Hint := ⟨chks 1 [0, 3, 4, 9, 10, 16, 17] (fb62 n f a), (xb62 n f a).map (·.2)⟩
theorem loop62b (n : Nat) (hn : n ≤ 7) (f : RF) (a : Nat) (ha : a < n) (R : Exit → St → Prop) : LoopOK X1 L62_2 (hb62 n f a) R := by
 refine loop_fams (Xm_ok _ _ _) [0, 3, 4, 9, 10, 16, 17] (fb62 n f a) (xb62 n f a) 150 ⟨fun (b : Nat) hb => ?_, fun (b : Nat) hb => ?_, trivial⟩
 · refine of_eq (q := (fun (k : Int) => (fun (j : Nat) => (fun (i : Prop) => (fun (h : Int) => (fun (g : Bool) => (fun (d : Int) => (fun (l : Prop) => (fun (c : Prop) => (fun (e : Prop) => i ∧ (k < (n : Int) → i ∧ i ∧ i ∧ i ∧ i ∧ i ∧ i ∧ idxPre d j ∧ idxPre k j ∧ i ∧ (g = true → i ∧ i ∧ i ∧ i ∧ i ∧ sumPre (0 : Nat) [(d, k)].length (nat_lit 16) ∧ i ∧ inR .i64 h ∧ i ∧ ((∃ (y : Nat), ((y ≤ n ∧ prK (P62 n f) j (a * j + y) = []) ∧ n - y < n - b) ∧ (i ∧ False ∧ l ∧ c ∧ l ∧ c ∧ h = (y : Int) ∧ i) ∧ e ∧ i) ∨ ∃ (y : Nat), (y ≤ n ∧ n - y < n - b) ∧ (i ∧ i ∧ l ∧ c ∧ l ∧ c ∧ h = (y : Int) ∧ i) ∧ e ∧ [(d, k)] = prK (P62 n f) j (a * j + y) ∧ i)) ∧ (g = false → inR .i64 h ∧ i ∧ ((∃ (y : Nat), ((y ≤ n ∧ prK (P62 n f) j (a * j + y) = []) ∧ n - y < n - b) ∧ (i ∧ i ∧ l ∧ c ∧ l ∧ c ∧ h = (y : Int) ∧ i) ∧ e ∧ i) ∨ ∃ (y : Nat), (y ≤ n ∧ n - y < n - b) ∧ (i ∧ False ∧ l ∧ c ∧ l ∧ c ∧ h = (y : Int) ∧ i) ∧ e ∧ False))) ∧ (¬k < (n : Int) → (∃ (y : Unit), prK (P62 n f) j (a * j + n) = [] ∧ (i ∧ i ∧ c ∧ l ∧ i) ∧ e ∧ i) ∨ ∃ (y : Unit), i ∧ (i ∧ False ∧ c ∧ l ∧ i) ∧ e ∧ False)) (c ∧ mkR f = mkR f ∧ i)) ((n : Int) = (n : Int))) (d = d)) ((a : Int))) (List.getD (List.getD (mkR f) a [false, false, false, false, false, false, false]) b false)) (k + 1)) (True)) ((7 : Nat))) ((b : Int))) (by kernel_rfl) ?_
   simp only [zz]
   obtain ⟨b1, b2⟩ := hb
   refine ⟨fun h1 => ?_, fun h1 => by rwa [show b = n by omega] at b2⟩
   have h1 : b < n := by omega
   have hst := prK_step (P := P62 n f) (i := a) (j := b) (w := 7) (by omega)
   have hP : P62 n f a b = f a b := by unfold P62; rw [decide_eq_true ha, decide_eq_true h1]; try rfl
   rw [hP] at hst
   rw [rel_get f (by omega) (by omega)]
   refine ⟨i7 (by omega), i7 (by omega), fun h2 => ⟨by unfold sumPre; simp, in1 (by omega), b + 1, ⟨by omega, by omega⟩, by omega, ?_⟩, fun h2 => ⟨in1 (by omega), b + 1, ⟨⟨by omega, ?_⟩, by omega⟩, by omega⟩⟩
   · rw [hst, if_pos h2, b2] <;> rfl
   · rw [hst, if_neg (by rw [h2]; decide)]; exact b2
 · refine of_eq (q := (fun (l : Nat) => (fun (p : LP) => (fun (k : Prop) => (fun (j : Int) => (fun (m : Int) => (fun (i : Bool) => (fun (h : LP) => (fun (e : Int) => (fun (q : Prop) => (fun (d : Int) => (fun (o : Prop) => (fun (g : Prop) => (fun (c : Prop) => k ∧ (j < d → k ∧ k ∧ k ∧ k ∧ k ∧ k ∧ k ∧ idxPre e l ∧ idxPre j l ∧ k ∧ (i = true → k ∧ k ∧ k ∧ k ∧ k ∧ sumPre (List.length h) [(e, j)].length (nat_lit 16) ∧ k ∧ inR .i64 m ∧ k ∧ (c ∨ ∃ (y : Nat), (y ≤ n ∧ n - y < n - b) ∧ (k ∧ k ∧ q ∧ o ∧ q ∧ o ∧ m = (y : Int) ∧ k) ∧ g ∧ h ++ [(e, j)] = prK (P62 n f) l (a * l + y) ∧ k)) ∧ (i = false → inR .i64 m ∧ k ∧ (c ∨ ∃ (y : Nat), (y ≤ n ∧ n - y < n - b) ∧ (k ∧ k ∧ q ∧ o ∧ q ∧ o ∧ m = (y : Int) ∧ k) ∧ g ∧ h = prK (P62 n f) l (a * l + y) ∧ k))) ∧ (¬j < d → (∃ (y : Unit), p = [] ∧ (k ∧ False ∧ o ∧ q ∧ k) ∧ g ∧ k) ∨ ∃ (y : Unit), k ∧ (k ∧ k ∧ o ∧ q ∧ k) ∧ g ∧ h = p ∧ k)) (∃ (y : Nat), ((y ≤ n ∧ prK (P62 n f) l (a * l + y) = []) ∧ n - y < n - b) ∧ (k ∧ False ∧ q ∧ o ∧ q ∧ o ∧ m = (y : Int) ∧ k) ∧ g ∧ k)) (o ∧ mkR f = mkR f ∧ k)) (d = d)) ((n : Int))) (e = e)) ((a : Int))) (prK (P62 n f) l (a * l + b))) (List.getD (List.getD (mkR f) a [false, false, false, false, false, false, false]) b false)) (j + 1)) ((b : Int))) (True)) (prK (P62 n f) l (a * l + n))) ((7 : Nat))) (by kernel_rfl) ?_
   simp only [zz]
   have b1 : b ≤ n := hb
   have hlen := prK_len (P62 n f) 7 (a * 7 + b)
   refine ⟨fun h1 => ?_, fun h1 => by rw [show b = n by omega]⟩
   have h1 : b < n := by omega
   have hst := prK_step (P := P62 n f) (i := a) (j := b) (w := 7) (by omega)
   have hP : P62 n f a b = f a b := by unfold P62; rw [decide_eq_true ha, decide_eq_true h1]; try rfl
   rw [hP] at hst
   rw [rel_get f (by omega) (by omega)]
   refine ⟨i7 (by omega), i7 (by omega), fun h2 => ⟨by unfold sumPre; simp; omega, in1 (by omega), b + 1, ⟨by omega, by omega⟩, by omega, ?_⟩, fun h2 => ⟨in1 (by omega), b + 1, ⟨by omega, by omega⟩, by omega, ?_⟩⟩
   · rw [hst, if_pos h2] <;> rfl
   · rw [hst, if_neg (by rw [h2]; decide)]
theorem row62 (n : Nat) (hn : n ≤ 7) (f : RF) (a : Nat) : prK (P62 n f) 7 (a * 7 + n) = prK (P62 n f) 7 ((a + 1) * 7) := by
 rw [Nat.succ_mul]
 exact (prK_row hn (by omega) fun j h1 h2 => by unfold P62; simp; omega).symm
theorem beg62 (n : Nat) (hn : n ≤ 7) (f : RF) (a : Nat) (ha : a < n) : prK (P62 n f) 7 (a * 7) = prK (P62 n f) 7 (a * 7 + 0) :=
 (prK_row (b := 0) (by omega) (by omega) fun j h1 h2 => by unfold P62; simp; omega).symm
def fa62 (n : Nat) (f : RF) : List Fam := [⟨Nat, fun a => a ≤ n ∧ prK (P62 n f) 7 (a * 7) = [], az62 n f, fun a => n - a, fun a _ => some (hb62 n f a)⟩, ⟨Nat, fun a => a ≤ n, at62 n f, fun a => n - a, fun a _ => some (hb62 n f a)⟩]
def xa62 (n : Nat) (f : RF) : List (List Nat × Ex) := [([3], ⟨0, Unit, fun _ => L62 n f = [], fun _ => ⟨(dd 3 ++ nl :: dd 33), [grO n f]⟩⟩), ([3], ⟨0, Unit, fun _ => True, fun _ => ⟨(dd 3 ++ .own 1 0 :: dd 33), [grO n f, .sc 0 91 AR (L62 n f)]⟩⟩)]
def ha62 (n : Nat) (f : RF) : Hint := ⟨chks 1 [0, 3, 9, 10] (fa62 n f), (xa62 n f).map (·.2)⟩
theorem all62 (n : Nat) (hn : n ≤ 7) (f : RF) : prK (P62 n f) 7 (n * 7) = L62 n f := prK_rows hn fun i j h => by unfold P62; simp; omega
theorem loop62a (n : Nat) (hn : n ≤ 7) (f : RF) (R : Exit → St → Prop) : LoopOK X1 L62_0 (ha62 n f) R := by
 refine loop_fams (Xm_ok _ _ _) [0, 3, 9, 10] (fa62 n f) (xa62 n f) 150 ⟨fun (a : Nat) ha => ?_, fun (a : Nat) ha => ?_, trivial⟩
 · have hL := fun h1 => loop62b n hn f a h1 (bodyR 1 (xa62 n f) R)
   have hrow := row62 n hn f a
   have hbeg := beg62 n hn f a
   refine of_eq (q := (fun (g : Nat) => (fun (j : LP) => (fun (e : Prop) => (fun (d : Int) => (fun (h : Int) => (fun (c : Int) => (fun (i : Prop) => (fun (b : Prop) => e ∧ (d < c → e ∧ e ∧ e ∧ e ∧ e ∧ e ∧ e ∧ LoopOK X1 L62_2 (hb62 n f a) (bodyR (1 : Nat) (xa62 n f) R) ∧ ((∃ (y : Nat), (y ≤ n ∧ prK (P62 n f) g (a * g + y) = []) ∧ (e ∧ e ∧ d = d ∧ i ∧ d = d ∧ i ∧ (0 : Int) = (y : Int) ∧ e) ∧ b ∧ e) ∨ ∃ (y : Nat), y ≤ n ∧ (e ∧ False ∧ d = d ∧ i ∧ d = d ∧ i ∧ (0 : Int) = (y : Int) ∧ e) ∧ b ∧ False) ∧ (∀ (y : Unit), j = [] → inR .i64 h ∧ e ∧ ((∃ (y : Nat), ((y ≤ n ∧ prK (P62 n f) g (y * g) = []) ∧ n - y < n - a) ∧ (e ∧ e ∧ i ∧ h = (y : Int) ∧ e) ∧ b ∧ e) ∨ ∃ (y : Nat), (y ≤ n ∧ n - y < n - a) ∧ (e ∧ False ∧ i ∧ h = (y : Int) ∧ e) ∧ b ∧ False)) ∧ (∀ (y : Unit), e → inR .i64 h ∧ e ∧ ((∃ (y : Nat), ((y ≤ n ∧ prK (P62 n f) g (y * g) = []) ∧ n - y < n - a) ∧ (e ∧ False ∧ i ∧ h = (y : Int) ∧ e) ∧ b ∧ e) ∨ ∃ (y : Nat), (y ≤ n ∧ n - y < n - a) ∧ (e ∧ e ∧ i ∧ h = (y : Int) ∧ e) ∧ b ∧ j = prK (P62 n f) g (y * g) ∧ e)) ∧ e) ∧ (¬d < c → (∃ (y : Unit), L62 n f = [] ∧ (e ∧ e) ∧ b ∧ e) ∨ ∃ (y : Unit), e ∧ (False ∧ e) ∧ b ∧ False)) (i ∧ mkR f = mkR f ∧ e)) (c = c)) ((n : Int))) (d + 1)) ((a : Int))) (True)) (prK (P62 n f) g (a * g + n))) ((7 : Nat))) (by kernel_rfl) ?_
   simp only [zz]
   obtain ⟨a1, a2⟩ := ha
   exact ⟨fun h1 => ⟨hL (by omega), ⟨0, ⟨Nat.zero_le _, a2⟩, rfl⟩, fun _ h2 => ⟨in1 (by omega), a + 1, ⟨⟨by omega, by rw [← hrow]; exact h2⟩, by omega⟩, by omega⟩, fun _ _ => ⟨in1 (by omega), a + 1, ⟨by omega, by omega⟩, by omega, hrow⟩⟩, fun h1 => (show a = n by omega) ▸ (all62 n hn f).symm.trans ((show n = a by omega) ▸ a2)⟩
 · have hL := fun h1 => loop62b n hn f a h1 (bodyR 1 (xa62 n f) R)
   have hrow := row62 n hn f a
   have hbeg := beg62 n hn f a
   refine of_eq (q := (fun (g : Prop) => (fun (e : Nat) => (fun (j : LP) => (fun (d : Int) => (fun (h : Int) => (fun (c : Int) => (fun (i : Prop) => (fun (b : Prop) => g ∧ (d < c → g ∧ g ∧ g ∧ g ∧ g ∧ g ∧ g ∧ LoopOK X1 L62_2 (hb62 n f a) (bodyR (1 : Nat) (xa62 n f) R) ∧ ((∃ (y : Nat), (y ≤ n ∧ prK (P62 n f) e (a * e + y) = []) ∧ (g ∧ False ∧ d = d ∧ i ∧ d = d ∧ i ∧ (0 : Int) = (y : Int) ∧ g) ∧ b ∧ g) ∨ ∃ (y : Nat), y ≤ n ∧ (g ∧ g ∧ d = d ∧ i ∧ d = d ∧ i ∧ (0 : Int) = (y : Int) ∧ g) ∧ b ∧ prK (P62 n f) e (a * e) = prK (P62 n f) e (a * e + y) ∧ g) ∧ (∀ (y : Unit), j = [] → inR .i64 h ∧ g ∧ ((∃ (y : Nat), ((y ≤ n ∧ prK (P62 n f) e (y * e) = []) ∧ n - y < n - a) ∧ (g ∧ g ∧ i ∧ h = (y : Int) ∧ g) ∧ b ∧ g) ∨ ∃ (y : Nat), (y ≤ n ∧ n - y < n - a) ∧ (g ∧ False ∧ i ∧ h = (y : Int) ∧ g) ∧ b ∧ False)) ∧ (∀ (y : Unit), g → inR .i64 h ∧ g ∧ ((∃ (y : Nat), ((y ≤ n ∧ prK (P62 n f) e (y * e) = []) ∧ n - y < n - a) ∧ (g ∧ False ∧ i ∧ h = (y : Int) ∧ g) ∧ b ∧ g) ∨ ∃ (y : Nat), (y ≤ n ∧ n - y < n - a) ∧ (g ∧ g ∧ i ∧ h = (y : Int) ∧ g) ∧ b ∧ j = prK (P62 n f) e (y * e) ∧ g)) ∧ g) ∧ (¬d < c → (∃ (y : Unit), L62 n f = [] ∧ (False ∧ g) ∧ b ∧ g) ∨ ∃ (y : Unit), g ∧ (g ∧ g) ∧ b ∧ prK (P62 n f) e (a * e) = L62 n f ∧ g)) (i ∧ mkR f = mkR f ∧ g)) (c = c)) ((n : Int))) (d + 1)) ((a : Int))) (prK (P62 n f) e (a * e + n))) ((7 : Nat))) (True)) (by kernel_rfl) ?_
   simp only [zz]
   have a1 : a ≤ n := ha
   exact ⟨fun h1 => ⟨hL (by omega), ⟨0, Nat.zero_le _, rfl, rfl⟩, fun _ h2 => ⟨in1 (by omega), a + 1, ⟨⟨by omega, by rw [← hrow]; exact h2⟩, by omega⟩, by omega⟩, fun _ _ => ⟨in1 (by omega), a + 1, ⟨by omega, by omega⟩, by omega, hrow⟩⟩, fun h1 => by rw [← all62 n hn f, show a = n by omega]⟩
theorem call62 (n : Nat) (hn : n ≤ 7) (f : RF) : GCall Try.prog gl 62 false [.ptr 0 0 []] [grO n f] [.sl AR (L62 n f)] [grO n f] := by
 refine gcall_of (X := X1) ((Xm_ok _ _ _)) (f := 62) (fn := Try.f62) (c := bodyOf Try.f62) (by kernel_rfl) (by kernel_rfl) (view := true) (rvs := [.tmp 2]) (by kernel_rfl) (H := (fun _ => some (ha62 n f))) 150 (by kernel_rfl) ?_
 have hL := loop62a n hn f
 refine of_eq (q := (fun (d : LP) => (fun (c : Int) => (fun (b : Prop) => (fun (a : Prop) => b ∧ b ∧ b ∧ b ∧ b ∧ b ∧ b ∧ LoopOK X1 L62_0 (ha62 n f) (RetR X1 false true [ResultVar.tmp (2 : Tmp)] [AV.sl AR d] [grO c f]) ∧ ((∃ (y : Nat), (y ≤ n ∧ prK (P62 n f) (7 : Nat) (y * 7) = []) ∧ (b ∧ b ∧ c = c ∧ (0 : Int) = (y : Int) ∧ b) ∧ a ∧ b) ∨ ∃ (y : Nat), y ≤ n ∧ (b ∧ False ∧ c = c ∧ (0 : Int) = (y : Int) ∧ b) ∧ a ∧ False) ∧ (∀ (y : Unit), d = [] → b ∧ b ∧ b ∧ (([] : List (Int × Int)) = d ∧ b) ∧ a ∧ b) ∧ (∀ (y : Unit), b → b ∧ b ∧ b ∧ (d = d ∧ b) ∧ a ∧ b) ∧ b) (c = c ∧ mkR f = mkR f ∧ b)) (True)) ((n : Int))) (L62 n f)) (by kernel_rfl) ?_
 simp only [zz]
 exact ⟨hL _, ⟨0, ⟨Nat.zero_le _, rfl⟩, rfl⟩, fun _ h => h.symm, fun _ _ => trivial⟩
def e62 : Entry Try.prog gl := entryW 62 ⟨Try.f62, by kernel_rfl, by kernel_rfl, by kernel_rfl⟩ true getG okG false (fun _ => [.ptr 0 0 []]) (fun x => [grQ x]) (fun x => [.sl AR (L62 x.1.toNat (rg x.2))]) (fun x => [grQ x]) (fun x h => by
 rw [grQ_ok h]; exact call62 _ (by have := h.n7; omega) _)
end Go.Am.Or

/- Orders: the arrows that one forces, one after the other; what is reached. -/
namespace Go.Am.Or
open Go Go.Am Go.Proofs
abbrev PA := Int × Int
abbrev MA := List (PA × PA)
abbrev ar (x y : Int) : AV := .agg [.int .i64 x, .int .i64 y]
abbrev pa (x y : Int) : AV := .ar I64 2 [x, y]
theorem call64 (a b : Int) (_ : True) : GCall Try.prog gl 64 true [ar a b] [] [ar b a] [] := by
 refine gcall_of (X := X []) (X_ok []) (f := 64) (fn := Try.f64) (c := bodyOf Try.f64) (by kernel_rfl) (by kernel_rfl) (view := false) (rvs := [.cell 2 91]) (by kernel_rfl) (H := fun _ => none) 80 (by kernel_rfl) ?_
 refine of_eq (q := (fun (c : Prop) => c ∧ c ∧ c ∧ c ∧ c ∧ c ∧ c ∧ c ∧ (c ∧ c) ∧ ((b = b ∧ a = a ∧ c) ∧ c) ∧ c) (True)) (by kernel_rfl) ?_
 simp only [zz]
theorem call66 (a b : Int) (_ : True) : GCall Try.prog gl 66 true [ar a b] [] [pa a b] [] := by
 refine gcall_of (X := X []) (X_ok []) (f := 66) (fn := Try.f66) (c := bodyOf Try.f66) (by kernel_rfl) (by kernel_rfl) (view := false) (rvs := [.cell 2 52]) (by kernel_rfl) (H := fun _ => none) 80 (by kernel_rfl) ?_
 refine of_eq (q := (fun (c : Prop) => c ∧ c ∧ c ∧ c ∧ c ∧ c ∧ c ∧ c ∧ (c ∧ c) ∧ ([a, b] = [a, b] ∧ c) ∧ c) (True)) (by kernel_rfl) ?_
 simp only [zz]
def e64 : Entry Try.prog gl := entry1 64 ⟨Try.f64, by kernel_rfl, by kernel_rfl, by kernel_rfl⟩ AR (fun _ => True) true (fun x => [ar (x : PA).2 (x : PA).1]) (fun _ => []) (fun x h => call64 _ _ h)
def e66 : Entry Try.prog gl := entry1 66 ⟨Try.f66, by kernel_rfl, by kernel_rfl, by kernel_rfl⟩ AR (fun _ => True) true (fun x => [pa (x : PA).1 (x : PA).2]) (fun _ => []) (fun x h => call66 _ _ h)
/-- What the arrow forces, column by column. -/
def fc1 (f : RF) (a b k : Nat) : LP := if k ≠ b ∧ f a k = true ∧ f b k = false then [((a : Int), (k : Int))] else []
def fc2 (f : RF) (a b k : Nat) : LP := if k ≠ a ∧ f k b = true ∧ f a k = false then [((k : Int), (b : Int))] else []
def fcl (f : RF) (a b : Nat) : Nat → LP
 | 0 => [((a : Int), (b : Int))]
 | k + 1 => fcl f a b k ++ fc1 f a b k ++ fc2 f a b k
def stp (i : Nat) (s : MA × LP) (y : PA) : MA × LP := if (mGet AR s.1 y).isSome = true then s else (mPut AR s.1 y (s.2.getD i (0, 0)), s.2 ++ [y])
theorem stp_len (i : Nat) (s : MA × LP) (y : PA) : s.2.length ≤ (stp i s y).2.length ∧ (stp i s y).2.length ≤ s.2.length + 1 := by
 unfold stp
 split
 · omega
 · simp
theorem fold_len (i : Nat) : ∀ (l : LP) (s : MA × LP), s.2.length ≤ (l.foldl (stp i) s).2.length ∧ (l.foldl (stp i) s).2.length ≤ s.2.length + l.length
 | [], s => by simp
 | y :: l, s => by
   have h1 := stp_len i s y
   have h2 := fold_len i l (stp i s y)
   simp only [List.foldl_cons, List.length_cons]
   omega
theorem fc1_len (f : RF) (a b k : Nat) : (fc1 f a b k).length ≤ 1 := by unfold fc1; split <;> simp
theorem fc2_len (f : RF) (a b k : Nat) : (fc2 f a b k).length ≤ 1 := by unfold fc2; split <;> simp
theorem fcl_len (f : RF) (a b : Nat) : ∀ k, (fcl f a b k).length ≤ 1 + 2 * k
 | 0 => by simp [fcl]
 | k + 1 => by
   have h1 := fcl_len f a b k
   have h2 := fc1_len f a b k
   have h3 := fc2_len f a b k
   simp only [fcl, List.length_append]
   omega
def rfC : Code → Option (Array Tmp × Code × Code)
 | .seq a b => (match rfC a with
   | some r => some r
   | none => rfC b)
 | .cond _ a b => (match rfC a with
   | some r => some r
   | none => rfC b)
 | .block _ b => rfC b
 | .loop b => rfC b
 | .scope b => rfC b
 | .rangeFunc _ ps a b => some (ps, a, b)
 | _ => none
noncomputable def rcC (ixs : List Nat) (f : Func) : RcC := match rfC (bodyOf f) with
 | some r => ⟨ixs, f.ntmps, r.1, r.2.1, r.2.2⟩
 | none => ⟨[], 0, #[], .skip, .skip⟩
noncomputable def C63 : RcC := rcC [6, 7, 8] Try.f63
def rc63 : AV := .clo 0 [.ptr 1 0 [], .ptr 3 0 [], .ptr 5 0 []] []
noncomputable def y63 (v : Nat) (M : MA) (Q : LP) (i : Nat) : List Ob := [.lp C63 .ready none rc63, .bx (.mp 2), .mo AR AR M, .bx (.own 4 v), .sc v 91 AR Q, .bx (.int .i64 i)]
noncomputable def Xyb (l : EL) (yl : List (YEntry Try.prog gl)) (ro : Option Nat) (m0 : Nat) (bs : List Nat) (dr : Nat → Option Nat) : Cy := { mkY Try.prog tt gl l yl ro m0 dr with bs := bs }
theorem Xyb_ok (l : EL) (yl : List (YEntry Try.prog gl)) (ro : Option Nat) (m0 : Nat) (bs : List Nat) (dr : Nat → Option Nat) : (Xyb l yl ro m0 bs dr).Ok := (mkY_ok tt_ok l yl ro m0 dr).bump bs
noncomputable abbrev Xy63 : Cy := Xyb [] [] (some 0) 6 [4] (fun _ => none)
theorem yield63 (M : MA) (Q : LP) (i : Nat) (y z : Int) (hi : i < Q.length) (hq : Q.length < 1000) : GYield Try.prog gl false [.yld 0, ar y z] (y63 0 M Q i) [.tt] (y63 1 (stp i (M, Q) (y, z)).1 (stp i (M, Q) (y, z)).2 i) := by
 refine gyield_of (X := Xy63) (Xyb_ok _ _ _ _ _ _) (C := C63) (j := none) (vs := [.ptr 1 0 [], .ptr 3 0 [], .ptr 5 0 []]) (xs := [ar y z]) (view := false) (by kernel_rfl) (by kernel_rfl) (by kernel_rfl) (H := fun _ => none) 120 120 ?_
 refine of_eq (q := (fun (f : Int × Int) => (fun (e : Bool) => (fun (d : Int) => (fun (c : MA × LP) => (fun (b : Prop) => (fun (a : Prop) => b ∧ b ∧ b ∧ b ∧ b ∧ b ∧ b ∧ b ∧ b ∧ b ∧ b ∧ b ∧ b ∧ (e = true → b ∧ b ∧ b ∧ b ∧ idxPre d (List.length Q) ∧ b ∧ b ∧ b ∧ b ∧ b ∧ sumPre (List.length Q) [(y, z)].length (nat_lit 16) ∧ b ∧ (true = true ∧ b) ∧ a ∧ b ∧ mPut AR M (y, z) (f.fst, f.snd) = c.fst ∧ b ∧ Q ++ [(y, z)] = c.snd ∧ d = d ∧ b) ∧ (e = false → (true = true ∧ b) ∧ a ∧ b ∧ M = c.fst ∧ b ∧ Q = c.snd ∧ d = d ∧ b)) (C63 = C63 ∧ LoopState.ready = LoopState.ready ∧ (none : Option Code) = none ∧ (b ∧ b ∧ b ∧ b) ∧ b)) (True)) (stp i (M, Q) (y, z))) ((i : Int))) (!(mGet AR M (y, z)).isSome)) (List.getD Q i ((0 : Int), (0 : Int)))) (by kernel_rfl) ?_
 simp only [zz]
 unfold stp
 refine ⟨fun h => ?_, fun h => ?_⟩
 · have h : (mGet AR M (y, z)).isSome = false := by simpa using h
   rw [if_neg (by rw [h]; decide)]
   exact ⟨idx_nat hi, by unfold sumPre; simp; omega, rfl, rfl⟩
 · have h : (mGet AR M (y, z)).isSome = true := by simpa using h
   rw [if_pos h]
   exact ⟨rfl, rfl⟩
abbrev G63 := MA × LP × Int
def unMA : Ob → Option MA
 | .mo k v m => (if h : k = AR ∧ v = AR then some (by obtain ⟨rfl, rfl⟩ := h; exact m) else none)
 | _ => none
def unLA : Ob → Option LP
 | .sc _ _ e xs => castL e AR xs
 | _ => none
def unI : Ob → Option Int
 | .bx (.int .i64 i) => some i
 | _ => none
def unA : Ob → Option PA
 | .bx (.agg [.int .i64 a, .int .i64 b]) => some (a, b)
 | _ => none
def getY63 (xs : List AV) (obs : List Ob) : Option (PA × G63) :=
 match xs with
 | [_, .agg [.int .i64 a, .int .i64 b]] => (match unMA (obs.getD 2 .gone), unLA (obs.getD 4 .gone), unI (obs.getD 5 .gone) with
   | some M, some Q, some i => some ((a, b), M, Q, i)
   | _, _, _ => none)
 | _ => none
structure ok63 (Q : LP) (i : Int) (k : Nat) : Prop where
 i0 : 0 ≤ i
 i1 : i < Q.length
 q : Q.length + k < 1000
noncomputable def EY63 : YEntry Try.prog gl := yentryW getY63 (fun x => ok63 x.2.2.1 x.2.2.2 0) false (fun x => [.yld 0, ar x.1.1 x.1.2]) (fun x => y63 0 x.2.1 x.2.2.1 x.2.2.2.toNat) (fun _ => [.tt]) (fun x => y63 1 (stp x.2.2.2.toNat (x.2.1, x.2.2.1) x.1).1 (stp x.2.2.2.toNat (x.2.1, x.2.2.1) x.1).2 x.2.2.2.toNat)
 (fun x h => yield63 x.2.1 x.2.2.1 x.2.2.2.toNat x.1.1 x.1.2 (by have := h.i0; have := h.i1; omega) (by have := h.q; omega))
noncomputable abbrev X79 : Cy := Xyb [] [EY63] none 9 [4] (drOf [(4, 34036), (5, 34036)])
/-- The state of the loop, behind some columns. -/
def fs79 (f : RF) (a b : Nat) (M : MA) (Q : LP) (i k : Nat) : MA × LP := (fcl f a b k).foldl (stp i) (M, Q)
noncomputable def ob79 (v n : Nat) (f : RF) (a b : Nat) (s : MA × LP) (i : Nat) : List Ob := y63 v s.1 s.2 i ++ [.bx (ar a b), .bx (.ptr 8 0 []), grO n f]
theorem fs79_step (f : RF) (a b : Nat) (M : MA) (Q : LP) (i k : Nat) : fs79 f a b M Q i (k + 1) = (fc2 f a b k).foldl (stp i) ((fc1 f a b k).foldl (stp i) (fs79 f a b M Q i k)) := by
 unfold fs79
 rw [fcl, List.foldl_append, List.foldl_append]
noncomputable def L79_0 : Code := lp (bodyOf Try.f79) 0
noncomputable def st79 (n : Nat) (f : RF) (a b : Nat) (M : MA) (Q : LP) (i k : Nat) : St := ⟨(.yld 0 :: .ptr 6 0 [] :: .ptr 7 0 [] :: dd 9 ++ .int .i64 n :: .int .i64 k :: dd 75), ob79 1 n f a b (fs79 f a b M Q i k) i⟩
noncomputable def ex79 (n : Nat) (f : RF) (a b : Nat) (M : MA) (Q : LP) (i : Nat) : List (List Nat × Ex) := [([], ⟨0, Unit, fun _ => True, fun _ => ⟨(dd 89), ob79 1 n f a b (fs79 f a b M Q i n) i⟩⟩)]
noncomputable def h79 (n : Nat) (f : RF) (a b : Nat) (M : MA) (Q : LP) (i : Nat) : Hint := ⟨chk 9 [0, 1, 2, 12, 13] (fun k => k ≤ n) (st79 n f a b M Q i), (ex79 n f a b M Q i).map (·.2)⟩
noncomputable def R79 (n : Nat) (f : RF) (a b : Nat) (M : MA) (Q : LP) (i : Nat) : Exit → St → Prop := RetR X79 false false [] [] (ob79 1 n f a b (fs79 f a b M Q i n) i)
structure pre79 (n a b : Nat) (Q : LP) (i : Nat) : Prop where
 n : n ≤ 7
 a : a < 7
 b : b < 7
 i : i < Q.length
 q : Q.length < 900
set_option maxRecDepth 10000 in
theorem loop79 (n : Nat) (f : RF) (a b : Nat) (M : MA) (Q : LP) (i : Nat) (h : pre79 n a b Q i) : LoopOK X79 L79_0 (h79 n f a b M Q i) (R79 n f a b M Q i) := by
 refine loop_ok (Xyb_ok _ _ _ _ _ _) (H := fun _ _ => none) [0, 1, 2, 12, 13] (fun k => k ≤ n) (st79 n f a b M Q i) (fun k => n - k) (ex79 n f a b M Q i) 200 fun (k : Nat) hk => ?_
 refine of_eq (q := (fun (E : Nat) => (fun (w : Int) => (fun (v : Int) => (fun (u : Int) => (fun (s : Int) => (fun (q : Int) => (fun (D : Int) => (fun (z : Prop) => (fun (x : Prop) => (fun (p : MA × LP) => (fun (o : Prop) => (fun (A : Prop) => (fun (m : Prop) => (fun (l : List Bool) => (fun (C : Bool) => (fun (t : Bool) => (fun (r : Bool) => (fun (j : Prop) => (fun (B : Prop) => (fun (h : MA × LP) => (fun (g : Prop) => (fun (e : Prop) => (fun (d : Prop) => (fun (c : Prop) => o ∧ (q < v → o ∧ o ∧ o ∧ d ∧ o ∧ d ∧ o ∧ d ∧ o ∧ d ∧ o ∧ d ∧ (¬q = s → o ∧ d ∧ o ∧ d ∧ o ∧ d ∧ o ∧ d ∧ o ∧ d ∧ o ∧ d ∧ idxPre u E ∧ d ∧ x ∧ d ∧ o ∧ d ∧ o ∧ d ∧ o ∧ d ∧ (r = true → o ∧ d ∧ o ∧ d ∧ o ∧ d ∧ o ∧ d ∧ o ∧ d ∧ o ∧ d ∧ idxPre s E ∧ d ∧ x ∧ d ∧ o ∧ d ∧ o ∧ d ∧ o ∧ d ∧ o ∧ d ∧ (C = true → o ∧ d ∧ o ∧ d ∧ o ∧ d ∧ o ∧ d ∧ o ∧ d ∧ ((ok63 p.snd w (0 : Nat) ∧ (o ∧ (u = u ∧ q = q ∧ o) ∧ o) ∧ B) ∧ A) ∧ o ∧ o ∧ o ∧ o ∧ o ∧ o ∧ d ∧ o ∧ d ∧ o ∧ d ∧ o ∧ d ∧ o ∧ d ∧ (¬q = u → o ∧ d ∧ o ∧ d ∧ o ∧ d ∧ o ∧ d ∧ o ∧ d ∧ o ∧ d ∧ x ∧ d ∧ idxPre s E ∧ d ∧ o ∧ d ∧ o ∧ d ∧ o ∧ d ∧ (t = true → o ∧ d ∧ o ∧ d ∧ o ∧ d ∧ o ∧ d ∧ o ∧ d ∧ o ∧ d ∧ idxPre u E ∧ d ∧ x ∧ d ∧ o ∧ d ∧ o ∧ d ∧ o ∧ d ∧ o ∧ d ∧ ((!r) = true → o ∧ d ∧ o ∧ d ∧ o ∧ d ∧ o ∧ d ∧ o ∧ d ∧ ((ok63 h.snd w (0 : Nat) ∧ (o ∧ (q = q ∧ s = s ∧ o) ∧ o) ∧ j ∧ o ∧ h.fst = h.fst ∧ o ∧ h.snd = h.snd ∧ w = w ∧ o) ∧ A) ∧ o ∧ o ∧ o ∧ o ∧ o ∧ z ∧ o ∧ ∃ (y : Nat), (y ≤ n ∧ n - y < n - k) ∧ (o ∧ o ∧ o ∧ v = v ∧ D = (y : Int) ∧ o) ∧ j ∧ o ∧ (stp i (h.fst, h.snd) (q, s)).fst = (fs79 f a b M Q i y).fst ∧ o ∧ (stp i (h.fst, h.snd) (q, s)).snd = (fs79 f a b M Q i y).snd ∧ m) ∧ ((!r) = false → e)) ∧ (t = false → o ∧ d ∧ o ∧ d ∧ e)) ∧ (¬¬q = u → o ∧ d ∧ o ∧ d ∧ o ∧ d ∧ o ∧ d ∧ e)) ∧ (C = false → c)) ∧ (r = false → o ∧ d ∧ o ∧ d ∧ c)) ∧ (¬¬q = s → o ∧ d ∧ o ∧ d ∧ o ∧ d ∧ o ∧ d ∧ c)) ∧ (¬q < v → ∃ (y : Unit), o ∧ o ∧ j ∧ o ∧ p.fst = (fs79 f a b M Q i n).fst ∧ o ∧ p.snd = (fs79 f a b M Q i n).snd ∧ m)) (o ∧ o ∧ o ∧ o ∧ d ∧ o ∧ d ∧ o ∧ d ∧ o ∧ d ∧ o ∧ d ∧ (¬q = u → o ∧ d ∧ o ∧ d ∧ o ∧ d ∧ o ∧ d ∧ o ∧ d ∧ o ∧ d ∧ x ∧ d ∧ idxPre s E ∧ d ∧ o ∧ d ∧ o ∧ d ∧ o ∧ d ∧ (t = true → o ∧ d ∧ o ∧ d ∧ o ∧ d ∧ o ∧ d ∧ o ∧ d ∧ o ∧ d ∧ idxPre u E ∧ d ∧ x ∧ d ∧ o ∧ d ∧ o ∧ d ∧ o ∧ d ∧ o ∧ d ∧ ((!r) = true → o ∧ d ∧ o ∧ d ∧ o ∧ d ∧ o ∧ d ∧ o ∧ d ∧ ((ok63 p.snd w (0 : Nat) ∧ (o ∧ (q = q ∧ s = s ∧ o) ∧ o) ∧ B) ∧ A) ∧ o ∧ o ∧ o ∧ o ∧ o ∧ z ∧ o ∧ ∃ (y : Nat), (y ≤ n ∧ n - y < n - k) ∧ (o ∧ o ∧ o ∧ v = v ∧ D = (y : Int) ∧ o) ∧ j ∧ o ∧ (stp i (p.fst, p.snd) (q, s)).fst = (fs79 f a b M Q i y).fst ∧ o ∧ (stp i (p.fst, p.snd) (q, s)).snd = (fs79 f a b M Q i y).snd ∧ m) ∧ ((!r) = false → g)) ∧ (t = false → o ∧ d ∧ o ∧ d ∧ g)) ∧ (¬¬q = u → o ∧ d ∧ o ∧ d ∧ o ∧ d ∧ o ∧ d ∧ g))) (true = true)) (o ∧ o ∧ o ∧ z ∧ o ∧ ∃ (y : Nat), (y ≤ n ∧ n - y < n - k) ∧ (o ∧ o ∧ o ∧ v = v ∧ D = (y : Int) ∧ o) ∧ j ∧ o ∧ h.fst = (fs79 f a b M Q i y).fst ∧ o ∧ h.snd = (fs79 f a b M Q i y).snd ∧ m)) (o ∧ o ∧ o ∧ z ∧ o ∧ ∃ (y : Nat), (y ≤ n ∧ n - y < n - k) ∧ (o ∧ o ∧ o ∧ v = v ∧ D = (y : Int) ∧ o) ∧ j ∧ o ∧ p.fst = (fs79 f a b M Q i y).fst ∧ o ∧ p.snd = (fs79 f a b M Q i y).snd ∧ m)) (stp i (p.fst, p.snd) (u, q))) (j ∧ o ∧ p.fst = p.fst ∧ o ∧ p.snd = p.snd ∧ w = w ∧ o)) (C63 = C63 ∧ LoopState.ready = LoopState.ready ∧ (none : Option Code) = none ∧ (o ∧ o ∧ o ∧ o) ∧ o)) (List.getD (List.getD (mkR f) a l) k false)) (List.getD (List.getD (mkR f) k l) b false)) (!List.getD (List.getD (mkR f) b l) k false)) ([false, false, false, false, false, false, false])) (w = w ∧ (u = u ∧ s = s ∧ o) ∧ o ∧ (v = v ∧ mkR f = mkR f ∧ o) ∧ o)) (o ∧ o ∧ o ∧ o ∧ o ∧ o ∧ o)) (True)) (fs79 f a b M Q i k)) (idxPre q E)) (inR .i64 D)) (q + 1)) ((k : Int))) ((b : Int))) ((a : Int))) ((n : Int))) ((i : Int))) ((7 : Nat))) (by kernel_rfl) ?_
 simp only [zz]
 refine ⟨fun h1 => ?_, fun h1 => by rw [show k = n by omega]; exact ⟨rfl, rfl⟩⟩
 have h1 : k < n := by omega
 have hn := h.n
 have ha := h.a
 have hb := h.b
 have hst := fs79_step f a b M Q i k
 have hlen := fold_len i (fcl f a b k) (M, Q)
 have hlf := fcl_len f a b k
 have hi := h.i
 have hq := h.q
 rw [rel_get f ha (by omega), rel_get f hb (by omega), rel_get f (by omega) hb]
 change Q.length ≤ (fs79 f a b M Q i k).2.length ∧ (fs79 f a b M Q i k).2.length ≤ Q.length + _ at hlen
 generalize fs79 f a b M Q i k = s0 at hlen hst ⊢
 obtain ⟨s1, s2⟩ := s0
 have hs1 := fun y => stp_len i (s1, s2) y
 simp only at hlen hs1 ⊢
 (repeat' first | with_reducible exact trivial | with_reducible apply And.intro | intro _)
 all_goals first | (with_reducible refine i7 ?_; omega) | (with_reducible refine in1 ?_; omega) | (with_reducible refine ok63.mk ?_ ?_ ?_ <;> (have := hs1 ((a : Int), (k : Int)); (try simp only); omega)) | refine ⟨k + 1, ⟨by omega, by omega⟩, by omega, ?_⟩
 all_goals clear hlen hs1 hlf hi hq h hk
 all_goals rw [hst]
 all_goals clear hst
 all_goals simp_all [fc1, fc2, Int.ofNat_inj]
theorem call79 (n : Nat) (f : RF) (a b : Nat) (M : MA) (Q : LP) (i : Nat) (h : pre79 n a b Q i) : GCall Try.prog gl 79 false [.yld 0, .ptr 6 0 [], .ptr 7 0 []] (ob79 0 n f a b (M, Q) i) [] (ob79 1 n f a b (fs79 f a b M Q i n) i) := by
 have hL := loop79 n f a b M Q i h
 refine gcall_of (X := X79) ((Xyb_ok _ _ _ _ _ _)) (f := 79) (fn := Try.f79) (c := bodyOf Try.f79) (by kernel_rfl) (by kernel_rfl) (view := false) (rvs := []) (by kernel_rfl) (H := (fun _ => some (h79 n f a b M Q i))) 150 (by kernel_rfl) ?_
 refine of_eq (q := (fun (k : MA × LP) => (fun (j : Int) => (fun (h : MA × LP) => (fun (e : Prop) => (fun (g : Prop) => (fun (d : Prop) => (fun (c : Prop) => e ∧ e ∧ ((ok63 Q j (0 : Nat) ∧ (e ∧ g ∧ e) ∧ c ∧ e ∧ M = M ∧ e ∧ Q = Q ∧ j = j ∧ e) ∧ e ∧ e ∧ e ∧ e ∧ e ∧ e ∧ e) ∧ e ∧ e ∧ e ∧ e ∧ e ∧ e ∧ LoopOK X79 L79_0 (h79 n f a b M Q i) (R79 n f a b M Q i) ∧ (∃ (y : Nat), y ≤ n ∧ (e ∧ e ∧ e ∧ (n : Int) = (n : Int) ∧ (0 : Int) = (y : Int) ∧ e) ∧ c ∧ e ∧ k.fst = (fs79 f a b M Q i y).fst ∧ e ∧ k.snd = (fs79 f a b M Q i y).snd ∧ d) ∧ (∀ (y : Unit), e → e ∧ e ∧ c ∧ e ∧ h.fst = h.fst ∧ e ∧ h.snd = h.snd ∧ d) ∧ e) (C63 = C63 ∧ LoopState.ready = LoopState.ready ∧ (none : Option Code) = none ∧ (e ∧ e ∧ e ∧ e) ∧ e)) (j = j ∧ g ∧ e ∧ ((n : Int) = (n : Int) ∧ mkR f = mkR f ∧ e) ∧ e)) ((a : Int) = (a : Int) ∧ (b : Int) = (b : Int) ∧ e)) (True)) (fs79 f a b M Q i n)) ((i : Int))) (stp i (M, Q) ((a : Int), (b : Int)))) (by kernel_rfl) ?_
 simp only [zz]
 exact ⟨⟨by omega, by have := h.i; omega, by have := h.q; omega⟩, hL, ⟨0, Nat.zero_le _, rfl, rfl, rfl⟩, fun _ _ => trivial⟩
structure G79 where
 g : Int × Rl
 a : Int
 b : Int
 M : MA
 Q : LP
 i : Int
def get79 (_ : List AV) (obs : List Ob) : Option G79 :=
 match unMA (obs.getD 2 .gone), unLA (obs.getD 4 .gone), unI (obs.getD 5 .gone), unA (obs.getD 6 .gone), unG (obs.getD 8 .gone) with
 | some M, some Q, some i, some p, some g => some ⟨g, p.1, p.2, M, Q, i⟩
 | _, _, _, _, _ => none
structure ok79 (x : G79) : Prop where
 g : okG x.g
 a0 : 0 ≤ x.a
 a7 : x.a < 7
 b0 : 0 ≤ x.b
 b7 : x.b < 7
 i0 : 0 ≤ x.i
 i1 : x.i < x.Q.length
 q : x.Q.length < 900
noncomputable def in79 (v : Nat) (g : Int × Rl) (a b : Int) (s : MA × LP) (i : Int) : List Ob := y63 v s.1 s.2 i.toNat ++ [.bx (ar a b), .bx (.ptr 8 0 []), grQ g]
noncomputable def e79 : Entry Try.prog gl := entryW 79 ⟨Try.f79, by kernel_rfl, by kernel_rfl, by kernel_rfl⟩ true get79 ok79 false (fun _ => [.yld 0, .ptr 6 0 [], .ptr 7 0 []]) (fun x => in79 0 x.g x.a x.b (x.M, x.Q) x.i) (fun _ => []) (fun x => in79 1 x.g x.a x.b (fs79 (rg x.g.2) x.a.toNat x.b.toNat x.M x.Q x.i.toNat x.g.1.toNat) x.i) (fun x h => by
 have := call79 x.g.1.toNat (rg x.g.2) x.a.toNat x.b.toNat x.M x.Q x.i.toNat ⟨by have := h.g.n7; omega, by have := h.a7; omega, by have := h.b7; omega, by have := h.i1; have := h.i0; omega, h.q⟩
 unfold in79
 unfold ob79 at this
 rw [Int.toNat_of_nonneg h.a0, Int.toNat_of_nonneg h.b0] at this
 rw [grQ_ok h.g]
 exact this)
theorem call69 (n : Nat) (f : RF) (a b : Int) : GCall Try.prog gl 69 true [.ptr 0 0 [], ar a b] [grO n f] [.clo 79 [] [.ptr 1 0 [], .ptr 2 0 []]] [grO n f, .bx (ar a b), .bx (.ptr 0 0 [])] := by
 refine gcall_of (X := (Xm [] 1 (fun _ => none))) ((Xm_ok _ _ _)) (f := 69) (fn := Try.f69) (c := bodyOf Try.f69) (by kernel_rfl) (by kernel_rfl) (view := false) (rvs := [.tmp 4]) (by kernel_rfl) (H := fun _ => none) 80 (by kernel_rfl) ?_
 refine of_eq (q := (fun (c : Prop) => c ∧ c ∧ c ∧ c ∧ c ∧ c ∧ ((c ∧ c ∧ c ∧ c) ∧ c) ∧ ((n : Int) = (n : Int) ∧ mkR f = mkR f ∧ c) ∧ (a = a ∧ b = b ∧ c) ∧ c ∧ c) (True)) (by kernel_rfl) ?_
 simp only [zz]
end Go.Am.Or

/- Orders: what is reached from an arrow. -/
namespace Go.Am.Or
open Go Go.Am Go.Proofs
theorem e69_of (x : Int × Rl) (h : okG x) (a b : Int) : GCall Try.prog gl 69 true [.ptr 0 0 [], ar a b] [grQ x] [.clo 79 [] [.ptr 1 0 [], .ptr 2 0 []]] [grQ x, .bx (ar a b), .bx (.ptr 0 0 [])] := by
 rw [grQ_ok h]; exact call69 _ _ a b
def getGA (xs : List AV) (obs : List Ob) : Option ((Int × Rl) × PA) :=
 match xs, unG (obs.getD 0 .gone) with
 | [_, .agg [.int .i64 a, .int .i64 b]], some g => some (g, (a, b))
 | _, _ => none
noncomputable def e69 : Entry Try.prog gl := entryW 69 ⟨Try.f69, by kernel_rfl, by kernel_rfl, by kernel_rfl⟩ true getGA (fun x => okG x.1) true (fun x => [.ptr 0 0 [], ar x.2.1 x.2.2]) (fun x => [grQ x.1]) (fun _ => [.clo 79 [] [.ptr 1 0 [], .ptr 2 0 []]]) (fun x => [grQ x.1, .bx (ar x.2.1 x.2.2), .bx (.ptr 0 0 [])]) (fun x h => e69_of x.1 h _ _)
theorem nodup_len : ∀ (m : Nat) (l : List Nat), l.Nodup → (∀ x, x ∈ l → x < m) → l.length ≤ m
 | 0, l, _, h => by
   cases l with
   | nil => simp
   | cons x l => exact absurd (h x (by simp)) (Nat.not_lt_zero _)
 | m + 1, l, hn, h => by
   by_cases hm : m ∈ l
   · have h1 := nodup_len m (l.erase m) (hn.erase m) fun x hx => by
       have h2 := (hn.mem_erase_iff).mp hx
       have := h x h2.2
       omega
     rw [List.length_erase_of_mem hm] at h1
     omega
   · have := nodup_len m l hn fun x hx => by
       have h2 := h x hx
       have : x ≠ m := fun e => hm (e ▸ hx)
       omega
     omega
structure okQ (n : Nat) (s : MA × LP) : Prop where
 nd : s.2.Nodup
 rg : ∀ y, y ∈ s.2 → (0 ≤ y.1 ∧ y.1 < n) ∧ (0 ≤ y.2 ∧ y.2 < n)
 dom : ∀ y, (mGet AR s.1 y).isSome = true ↔ y ∈ s.2
theorem okQ.len {n : Nat} {s : MA × LP} (h : okQ n s) (hn : n ≤ 7) : s.2.length ≤ 49 := by
 have := nodup_len 49 (s.2.map fun y => (y.1 * 7 + y.2).toNat) (by
   have h1 := h.nd
   have h2 := h.rg
   revert h1 h2
   generalize s.2 = l
   intro h1 h2
   induction l with
   | nil => simp
   | cons y l ih =>
     rw [List.nodup_cons] at h1
     rw [List.map_cons, List.nodup_cons]
     refine ⟨fun hm => ?_, ih h1.2 fun z hz => h2 z (by simp [hz])⟩
     obtain ⟨z, hz, e⟩ := List.mem_map.mp hm
     have h3 := h2 y (by simp)
     have h4 := h2 z (by simp [hz])
     have e1 : z = y := Prod.ext (by omega) (by omega)
     exact h1.1 (e1 ▸ hz)) (fun x hx => by
   obtain ⟨z, hz, e⟩ := List.mem_map.mp hx
   have h4 := h.rg z hz
   omega)
 simpa using this
theorem mGet_if {e : PA × PA} {M : MA} {y : PA} : mGet AR (e :: M) y = if y = e.1 then some e.2 else mGet AR M y := by
 rw [mGet]
 cases h : AR.deq y e.1 with
 | isTrue h1 => exact (if_pos h1).symm
 | isFalse h1 => exact (if_neg h1).symm
theorem mPut_if {e : PA × PA} {M : MA} {x z : PA} : mPut AR (e :: M) x z = if x = e.1 then (x, z) :: M else e :: mPut AR M x z := by
 rw [mPut]
 cases h : AR.deq x e.1 with
 | isTrue h1 => exact (if_pos h1).symm
 | isFalse h1 => exact (if_neg h1).symm
theorem mGet_put {M : MA} {x y z : PA} : (mGet AR (mPut AR M x z) y).isSome = true ↔ y = x ∨ (mGet AR M y).isSome = true := by
 induction M with
 | nil =>
   rw [mPut, mGet_if]
   split
   · rename_i h; simp [h]
   · rename_i h; simp [mGet]; exact h
 | cons p M ih =>
   rw [mPut_if]
   split
   · rename_i h
     rw [mGet_if, mGet_if, ← h]
     split
     · rename_i h2; simp [h2]
     · rename_i h2; simp only at h2; simp [h2]
   · rw [mGet_if, mGet_if]
     split
     · simp
     · exact ih
theorem stp_ok {n i : Nat} {s : MA × LP} {y : PA} (h : okQ n s) (hy : (0 ≤ y.1 ∧ y.1 < n) ∧ (0 ≤ y.2 ∧ y.2 < n)) : okQ n (stp i s y) := by
 unfold stp
 by_cases hm : (mGet AR s.1 y).isSome = true
 · rw [if_pos hm]; exact h
 · rw [if_neg hm]
   have hn : ¬ y ∈ s.2 := fun h1 => hm ((h.dom y).mpr h1)
   refine ⟨?_, fun z hz => ?_, fun z => ?_⟩
   · show (s.2 ++ [y]).Nodup
     rw [List.nodup_append]
     exact ⟨h.nd, by simp, fun a ha b hb e => hn (by rw [List.mem_singleton] at hb; rw [← hb, ← e]; exact ha)⟩
   · rcases List.mem_append.mp hz with h1 | h1
     · exact h.rg z h1
     · rw [List.mem_singleton.mp h1]; exact hy
   · show (mGet AR (mPut AR s.1 y _) z).isSome = true ↔ z ∈ s.2 ++ [y]
     rw [mGet_put, h.dom z, List.mem_append, List.mem_singleton]
     exact ⟨fun h => h.elim .inr .inl, fun h => h.elim .inr .inl⟩
theorem fold_ok {n i : Nat} : ∀ {l : LP} {s : MA × LP}, okQ n s → (∀ y, y ∈ l → (0 ≤ y.1 ∧ y.1 < n) ∧ (0 ≤ y.2 ∧ y.2 < n)) → okQ n (l.foldl (stp i) s)
 | [], _, h, _ => h
 | y :: l, _, h, hl => fold_ok (l := l) (stp_ok h (hl y (by simp))) fun z hz => hl z (by simp [hz])
theorem fcl_rg {f : RF} {n a b : Nat} (ha : a < n) (hb : b < n) : ∀ {k : Nat}, k ≤ n → ∀ y, y ∈ fcl f a b k → (0 ≤ y.1 ∧ y.1 < n) ∧ (0 ≤ y.2 ∧ y.2 < n)
 | 0, _, y, h => by
   rw [fcl, List.mem_singleton] at h
   rw [h]; simp only; omega
 | k + 1, hk, y, h => by
   rw [fcl, List.mem_append, List.mem_append] at h
   rcases h with (h | h) | h
   · exact fcl_rg ha hb (by omega) y h
   · unfold fc1 at h
     split at h
     · rw [List.mem_singleton] at h; rw [h]; simp only; omega
     · cases h
   · unfold fc2 at h
     split at h
     · rw [List.mem_singleton] at h; rw [h]; simp only; omega
     · cases h
theorem fcl_ext {f g : RF} {a b : Nat} (h : ∀ x y, x < 7 → y < 7 → f x y = g x y) (ha : a < 7) (hb : b < 7) : ∀ {k : Nat}, k ≤ 7 → fcl f a b k = fcl g a b k
 | 0, _ => rfl
 | k + 1, hk => by
   rw [fcl, fcl, fcl_ext h ha hb (by omega)]
   unfold fc1 fc2
   rw [h a k ha (by omega), h b k hb (by omega), h k b (by omega) hb]
def fcy (f : RF) (n : Nat) (y : PA) : LP := fcl f y.1.toNat y.2.toNat n
/-- The state behind k rounds. -/
def rst (f : RF) (n : Nat) (s : MA × LP) : Nat → MA × LP
 | 0 => s
 | k + 1 => if k < (rst f n s k).2.length then (fcy f n ((rst f n s k).2.getD k (0, 0))).foldl (stp k) (rst f n s k) else rst f n s k
theorem rst_ok {f : RF} {n : Nat} {s : MA × LP} (h : okQ n s) : ∀ k, okQ n (rst f n s k)
 | 0 => h
 | k + 1 => by
   have ih := rst_ok (f := f) h k
   rw [rst]
   split
   · rename_i hk
     have hm : (rst f n s k).2.getD k (0, 0) ∈ (rst f n s k).2 := by rw [getD_lt hk]; exact List.getElem_mem hk
     have hr := ih.rg _ hm
     exact fold_ok ih (fcl_rg (by omega) (by omega) (Nat.le_refl n))
   · exact ih
theorem rst_stop {f : RF} {n : Nat} {s : MA × LP} {k : Nat} (h : (rst f n s k).2.length ≤ k) : ∀ j, rst f n s (k + j) = rst f n s k
 | 0 => rfl
 | j + 1 => by
   have := rst_stop h j
   rw [← Nat.add_assoc, rst, this, if_neg (by omega)]
theorem rst_len {f : RF} {n : Nat} {s : MA × LP} (k : Nat) : (rst f n s k).2.length ≤ (rst f n s (k + 1)).2.length := by
 rw [rst]
 split
 · exact (fold_len _ _ _).1
 · omega
def rs0 (a b : Int) : MA × LP := ([((a, b), (a, b))], [(a, b)])
def rch (f : RF) (n : Nat) (a b : Int) : MA × LP := rst f n (rs0 a b) 49
theorem rs0_ok {n : Nat} {a b : Int} (ha : 0 ≤ a ∧ a < n) (hb : 0 ≤ b ∧ b < n) : okQ n (rs0 a b) := by
 refine ⟨by simp [rs0], fun y hy => ?_, fun y => ?_⟩
 · rw [rs0, List.mem_singleton] at hy
   rw [hy]; exact ⟨ha, hb⟩
 · have := mGet_put (M := []) (x := (a, b)) (y := y) (z := (a, b))
   rw [mPut] at this
   rw [rs0, List.mem_singleton, this]
   simp [mGet]
theorem rch_ok {f : RF} {n : Nat} {a b : Int} (ha : 0 ≤ a ∧ a < n) (hb : 0 ≤ b ∧ b < n) : okQ n (rch f n a b) := rst_ok (rs0_ok ha hb) _
noncomputable abbrev X63 : Cy := Xyb [e69, e79] [] none 1 [] (fun _ => none)
noncomputable def L63_0 : Code := lp (bodyOf Try.f63) 0
noncomputable def st63 (n : Nat) (f : RF) (s : MA × LP) (i : Nat) : St := ⟨(.ptr 0 0 [] :: dd 5 ++ .ptr 1 0 [] :: .ptr 3 0 [] :: .ptr 5 0 [] :: dd 43), [grO n f, .bx (.mp 2), .mo AR AR (rst f n s i).1, .bx (.own 4 0), .sc 0 91 AR (rst f n s i).2, .bx (.int .i64 i)]⟩
noncomputable def ex63 (n : Nat) (f : RF) (s : MA × LP) : List (List Nat × Ex) := [([6, 7], ⟨0, Unit, fun _ => True, fun _ => ⟨(dd 6 ++ .ptr 1 0 [] :: .ptr 3 0 [] :: dd 44), [grO n f, .bx (.mp 2), .mo AR AR (rst f n s 49).1, .bx (.own 4 0), .sc 0 91 AR (rst f n s 49).2]⟩⟩)]
noncomputable def h63 (n : Nat) (f : RF) (s : MA × LP) : Hint := ⟨chk 1 [0, 6, 7, 8] (fun i => i ≤ (rst f n s i).2.length) (st63 n f s), (ex63 n f s).map (·.2)⟩
theorem loop63 (n : Nat) (n1 : 1 ≤ n) (hn : n ≤ 7) (f : RF) (s : MA × LP) (hs : okQ n s) (R : Exit → St → Prop) : LoopOK X63 L63_0 (h63 n f s) R := by
 refine loop_ok (Xyb_ok _ _ _ _ _ _) (H := fun _ _ => none) [0, 6, 7, 8] (fun i => i ≤ (rst f n s i).2.length) (st63 n f s) (fun i => 49 - i) (ex63 n f s) 200 fun (i : Nat) hi => ?_
 refine of_eq (q := (fun (l : Prop) => (fun (j : Int) => (fun (h : Prop) => (fun (m : Prop) => (fun (e : Prop) => (fun (d : MA × LP) => (fun (p : Nat) => (fun (c : Int × Int) => (fun (o : Prop) => (fun (k : MA × LP) => h ∧ h ∧ h ∧ h ∧ (j < (p : Int) → h ∧ h ∧ h ∧ idxPre j p ∧ h ∧ ((okG ((n : Int), mkR f) ∧ (h ∧ o ∧ h) ∧ e ∧ h) ∧ h ∧ h) ∧ (((ok79 { g := ((n : Int), mkR f), a := c.fst, b := c.snd, M := d.fst, Q := d.snd, i := j } ∧ m ∧ (C63 = C63 ∧ LoopState.ready = LoopState.ready ∧ l ∧ m ∧ h) ∧ h ∧ d.fst = d.fst ∧ h ∧ d.snd = d.snd ∧ j = j ∧ o ∧ h ∧ e ∧ h) ∧ h ∧ h ∧ h ∧ h ∧ h ∧ h ∧ m) ∧ ¬LoopState.ready = LoopState.busy) ∧ (l → h ∧ h ∧ h ∧ h ∧ inR .i64 (j + 1) ∧ h ∧ ∃ (y : Nat), (y ≤ List.length (rst f n s y).snd ∧ (49 : Nat) - y < 49 - i) ∧ (h ∧ m) ∧ e ∧ h ∧ k.fst = (rst f n s y).fst ∧ h ∧ k.snd = (rst f n s y).snd ∧ j + 1 = (y : Int) ∧ h) ∧ l ∧ h) ∧ (¬j < (p : Int) → ∃ (y : Unit), h ∧ (h ∧ h ∧ h) ∧ e ∧ h ∧ d.fst = (rst f n s (49 : Nat)).fst ∧ h ∧ d.snd = (rst f n s (49 : Nat)).snd ∧ h)) (fs79 (rg (mkR f)) (Int.toNat c.fst) (Int.toNat c.snd) d.fst d.snd i n)) (c.fst = c.fst ∧ c.snd = c.snd ∧ h)) (List.getD d.snd i ((0 : Int), (0 : Int)))) (List.length d.snd)) (rst f n s i)) ((n : Int) = (n : Int) ∧ mkR f = mkR f ∧ h)) (h ∧ h ∧ h ∧ h)) (True)) ((i : Int))) ((none : Option Code) = none)) (by kernel_rfl) ?_
 simp only [zz]
 have ho := rst_ok (f := f) hs i
 have hl := ho.len hn
 refine ⟨fun h1 => ?_, fun h1 => ?_⟩
 · have h1 : i < (rst f n s i).2.length := by omega
   have hm : (rst f n s i).2.getD i (0, 0) ∈ (rst f n s i).2 := by rw [getD_lt h1]; exact List.getElem_mem h1
   have hr := ho.rg _ hm
   have hst : rst f n s (i + 1) = (fcy f n ((rst f n s i).2.getD i (0, 0))).foldl (stp i) (rst f n s i) := by rw [rst, if_pos h1]
   have hlen := fold_len i (fcy f n ((rst f n s i).2.getD i (0, 0))) (rst f n s i)
   have hg : okG ((n : Int), mkR f) := ⟨mk_rg f, by simp only; omega, by simp only; omega⟩
   have e : fs79 (rg (mkR f)) ((rst f n s i).2.getD i (0, 0)).1.toNat ((rst f n s i).2.getD i (0, 0)).2.toNat (rst f n s i).1 (rst f n s i).2 i n = rst f n s (i + 1) := by
     rw [hst]
     unfold fs79 fcy
     rw [fcl_ext (f := rg (mkR f)) (g := f) (fun x y hx hy => rg_mk hx hy) (by omega) (by omega) (by omega)]
   have e1 := rst_len (f := f) (n := n) (s := s) i
   generalize (rst f n s i).2.getD i (0, 0) = y at hr e ⊢
   rw [e]
   refine ⟨idx_nat h1, hg, ⟨⟨hg, by simp only; omega, by simp only; omega, by simp only; omega, by simp only; omega, by simp only; omega, by simp only; omega, by simp only; omega⟩, by decide⟩, fun _ => ⟨in1 (by omega), i + 1, ⟨?_, by omega⟩, rfl, rfl, by omega⟩⟩
   omega
 · have h2 : i = (rst f n s i).2.length := by omega
   have := rst_stop (f := f) (n := n) (s := s) (k := i) (by omega) (49 - i)
   rw [show i + (49 - i) = 49 by omega] at this
   rw [this]
   exact ⟨rfl, rfl⟩
theorem call63 (n : Nat) (n1 : 1 ≤ n) (hn : n ≤ 7) (f : RF) (a b : Int) (ha : 0 ≤ a ∧ a < n) (hb : 0 ≤ b ∧ b < n) : GCall Try.prog gl 63 false [.ptr 0 0 [], ar a b] [grO n f] [.own 1 0, .mp 2] [grO n f, .sc 0 91 AR (rch f n a b).2, .mo AR AR (rch f n a b).1] := by
 refine gcall_of (X := X63) ((Xyb_ok _ _ _ _ _ _)) (f := 63) (fn := Try.f63) (c := bodyOf Try.f63) (by kernel_rfl) (by kernel_rfl) (view := false) (rvs := [.tmp 4, .tmp 5]) (by kernel_rfl) (H := (fun _ => some (h63 n f (rs0 a b)))) 150 (by kernel_rfl) ?_
 have hL := fun R => loop63 n n1 hn f (rs0 a b) (rs0_ok ha hb) R
 refine of_eq (q := (fun (g : MA × LP) => (fun (e : MA × LP) => (fun (c : Prop) => (fun (d : Prop) => c ∧ c ∧ c ∧ c ∧ c ∧ c ∧ c ∧ c ∧ c ∧ c ∧ c ∧ c ∧ c ∧ c ∧ c ∧ c ∧ LoopOK X63 L63_0 (h63 n f e) (RetR X63 false false [ResultVar.tmp (4 : Tmp), ResultVar.tmp (5 : Tmp)] [AV.own (1 : Nat) (0 : Nat), AV.mp (2 : Nat)] [grO (n : Int) f, Ob.sc (0 : Nat) (91 : TypeId) AR g.snd, Ob.mo AR AR g.fst]) ∧ (∃ (y : Nat), y ≤ List.length (rst f n e y).snd ∧ (c ∧ c ∧ c ∧ c ∧ c) ∧ d ∧ c ∧ mPut ((Ty.int .i64).s2 (Ty.int .i64)) [] (a, b) (a, b) = (rst f n e y).fst ∧ c ∧ [(a, b)] = (rst f n e y).snd ∧ (0 : Int) = (y : Int) ∧ c) ∧ (∀ (y : Unit), c → c ∧ c ∧ c ∧ c ∧ c ∧ (c ∧ c ∧ c) ∧ d ∧ (rst f n e (49 : Nat)).snd = g.snd ∧ (rst f n e (49 : Nat)).fst = g.fst ∧ c) ∧ c) ((n : Int) = (n : Int) ∧ mkR f = mkR f ∧ c)) (True)) (rs0 a b)) (rch f n a b)) (by kernel_rfl) ?_
 simp only [zz]
 exact ⟨hL _, ⟨0, Nat.zero_le _, rfl, rfl, rfl⟩, fun _ _ => ⟨rfl, rfl⟩⟩
structure okX (x : (Int × Rl) × PA) : Prop where
 g : okG x.1
 a : 0 ≤ x.2.1 ∧ x.2.1 < x.1.1
 b : 0 ≤ x.2.2 ∧ x.2.2 < x.1.1
def rchx (x : (Int × Rl) × PA) : MA × LP := rch (rg x.1.2) x.1.1.toNat x.2.1 x.2.2
noncomputable def e63 : Entry Try.prog gl := entryW 63 ⟨Try.f63, by kernel_rfl, by kernel_rfl, by kernel_rfl⟩ true getGA okX false (fun x => [.ptr 0 0 [], ar x.2.1 x.2.2]) (fun x => [grQ x.1]) (fun _ => [.own 1 0, .mp 2]) (fun x => [grQ x.1, .sc 0 91 AR (rchx x).2, .mo AR AR (rchx x).1]) (fun x h => by
 rw [grQ_ok h.g]
 have h1 := h.g.n1
 exact call63 _ (by omega) (by have := h.g.n7; omega) _ _ _ (by have := h.a; omega) (by have := h.b; omega))
end Go.Am.Or

/- Orders: an order of a graph, class by class. -/
namespace Go.Am.Or
open Go Go.Am Go.Proofs
def adL (o : RF) (l : LP) : RF := l.foldl (fun o y => upd o y.1.toNat y.2.toNat true) o
def dlL (g : RF) (l : LP) : RF := l.foldl (fun g y => upd (upd g y.1.toNat y.2.toNat false) y.2.toNat y.1.toNat false) g
def ng (o : RF) (y : PA) : Bool := o y.2.toNat y.1.toNat
def zf : RF := fun _ _ => false
/-- What the loop answers: none where two arrows of one edge are met. -/
def orI (n : Nat) : Nat → RF → RF → Option RF
 | 0, _, _ => none
 | k + 1, o, g => match L62 n g with
   | [] => some o
   | y :: _ => if (rch g n y.1 y.2).2.any (ng (adL o (rch g n y.1 y.2).2)) = true then none else orI n k (adL o (rch g n y.1 y.2).2) (dlL g (rch g n y.1 y.2).2)
def orR (n : Nat) (f : RF) : RF × Bool := match orI n 50 zf f with
 | none => (zf, false)
 | some o => (o, trB o)
theorem adL_iff {l : LP} : ∀ {o : RF} {x y : Nat}, (∀ z, z ∈ l → 0 ≤ z.1 ∧ 0 ≤ z.2) → (adL o l x y = true ↔ o x y = true ∨ ((x : Int), (y : Int)) ∈ l) := by
 induction l with
 | nil => intro o x y _; simp [adL]
 | cons z l ih =>
   intro o x y h
   have h0 := h z (by simp)
   have := ih (o := upd o z.1.toNat z.2.toNat true) (x := x) (y := y) fun w hw => h w (by simp [hw])
   show adL (upd o z.1.toNat z.2.toNat true) l x y = true ↔ _
   rw [this]
   unfold upd
   by_cases e : x = z.1.toNat ∧ y = z.2.toNat
   · have e1 : ((x : Int), (y : Int)) = z := Prod.ext (by simp only; omega) (by simp only; omega)
     rw [if_pos e, ← e1]
     simp
   · have e1 : ¬ ((x : Int), (y : Int)) = z := fun e1 => e (by rw [← e1]; simp)
     rw [if_neg e, List.mem_cons]
     simp [e1]
theorem dlL_iff {l : LP} : ∀ {g : RF} {x y : Nat}, (∀ z, z ∈ l → 0 ≤ z.1 ∧ 0 ≤ z.2) → (dlL g l x y = true ↔ g x y = true ∧ ¬ ((x : Int), (y : Int)) ∈ l ∧ ¬ ((y : Int), (x : Int)) ∈ l) := by
 induction l with
 | nil => intro o x y _; simp [dlL]
 | cons z l ih =>
   intro g x y h
   have h0 := h z (by simp)
   have := ih (g := upd (upd g z.1.toNat z.2.toNat false) z.2.toNat z.1.toNat false) (x := x) (y := y) fun w hw => h w (by simp [hw])
   show dlL (upd (upd g z.1.toNat z.2.toNat false) z.2.toNat z.1.toNat false) l x y = true ↔ _
   rw [this]
   unfold upd
   have e1 : (x = z.1.toNat ∧ y = z.2.toNat) ↔ ((x : Int), (y : Int)) = z := ⟨fun e => Prod.ext (by simp only; omega) (by simp only; omega), fun e => by rw [← e]; simp⟩
   have e2 : (x = z.2.toNat ∧ y = z.1.toNat) ↔ ((y : Int), (x : Int)) = z := ⟨fun e => Prod.ext (by simp only; omega) (by simp only; omega), fun e => by rw [← e]; simp⟩
   rw [List.mem_cons, List.mem_cons]
   by_cases h1 : x = z.2.toNat ∧ y = z.1.toNat
   · rw [if_pos h1]; simp [e2.mp h1]
   · by_cases h2 : x = z.1.toNat ∧ y = z.2.toNat
     · rw [if_neg h1, if_pos h2]; simp [e1.mp h2]
     · rw [if_neg h1, if_neg h2]
       have := fun h => h1 (e2.mpr h)
       have := fun h => h2 (e1.mpr h)
       simp_all
theorem prK_le {P Q : RF} {w : Nat} (h : ∀ x y, Q x y = true → P x y = true) : ∀ q, (prK Q w q).length ≤ (prK P w q).length
 | 0 => Nat.le_refl _
 | q + 1 => by
   have ih := prK_le (w := w) h q
   rw [prK, prK]
   by_cases h1 : Q (q / w) (q % w) = true
   · rw [if_pos h1, if_pos (h _ _ h1), List.length_append, List.length_append]; simp; omega
   · rw [if_neg h1]
     split
     · rw [List.length_append]; omega
     · exact ih
theorem prK_lt {P Q : RF} {w a b : Nat} (h : ∀ x y, Q x y = true → P x y = true) (hb : b < w) (h1 : P a b = true) (h2 : Q a b = false) : ∀ q, a * w + b < q → (prK Q w q).length < (prK P w q).length
 | 0, hq => absurd hq (Nat.not_lt_zero _)
 | q + 1, hq => by
   rw [prK, prK]
   by_cases e : a * w + b = q
   · have ed := dm (i := a) hb
     rw [← e, ed.1, ed.2, if_pos h1, if_neg (by rw [h2]; decide), List.length_append, List.length_singleton]
     have := prK_le (w := w) h (a * w + b)
     omega
   · have ih := prK_lt h hb h1 h2 q (by omega)
     by_cases h3 : Q (q / w) (q % w) = true
     · rw [if_pos h3, if_pos (h _ _ h3), List.length_append, List.length_append]; simp; omega
     · rw [if_neg h3]
       split
       · rw [List.length_append]; omega
       · exact ih
theorem prK_mem {P : RF} {w : Nat} (hw : 0 < w) {y : PA} : ∀ {q : Nat}, y ∈ prK P w q ↔ ∃ a b : Nat, y = ((a : Int), (b : Int)) ∧ b < w ∧ a * w + b < q ∧ P a b = true
 | 0 => by simp [prK]
 | q + 1 => by
   have ih := prK_mem (P := P) hw (y := y) (q := q)
   have hq : q / w * w + q % w = q := by rw [Nat.mul_comm]; exact Nat.div_add_mod q w
   rw [prK]
   split
   · rename_i h
     rw [List.mem_append, List.mem_singleton, ih]
     constructor
     · rintro (⟨a, b, h1, h2, h3, h4⟩ | h1)
       · exact ⟨a, b, h1, h2, by omega, h4⟩
       · exact ⟨q / w, q % w, h1, Nat.mod_lt _ hw, by omega, h⟩
     · rintro ⟨a, b, h1, h2, h3, h4⟩
       by_cases e : a * w + b = q
       · right
         have ed := dm (i := a) h2
         rw [← e, ed.1, ed.2]; exact h1
       · exact .inl ⟨a, b, h1, h2, by omega, h4⟩
   · rename_i h
     rw [ih]
     constructor
     · rintro ⟨a, b, h1, h2, h3, h4⟩
       exact ⟨a, b, h1, h2, by omega, h4⟩
     · rintro ⟨a, b, h1, h2, h3, h4⟩
       refine ⟨a, b, h1, h2, ?_, h4⟩
       by_cases e : a * w + b = q
       · have ed := dm (i := a) h2
         rw [← e, ed.1, ed.2] at h
         exact absurd h4 h
       · omega
theorem L62_mem {n : Nat} {f : RF} (hn : n ≤ 7) {y : PA} : y ∈ L62 n f ↔ ∃ a b : Nat, y = ((a : Int), (b : Int)) ∧ a < n ∧ b < n ∧ f a b = true := by
 unfold L62
 rw [prK_mem (by decide)]
 constructor
 · rintro ⟨a, b, h1, h2, h3, h4⟩
   simp only [P62, Bool.and_eq_true, decide_eq_true_eq] at h4
   exact ⟨a, b, h1, h4.1.1, h4.1.2, h4.2⟩
 · rintro ⟨a, b, h1, h2, h3, h4⟩
   exact ⟨a, b, h1, by omega, by omega, by unfold P62; rw [decide_eq_true h2, decide_eq_true h3, h4]; rfl⟩
theorem L62_ext {n : Nat} {f g : RF} (h : ∀ x y, x < 7 → y < 7 → f x y = g x y) : L62 n f = L62 n g :=
 prK_ext (fun x y hx hy => by unfold P62; rw [h x y hx hy]) 49 (Nat.le_refl _)
theorem fold_ext {i : Nat} {l m : LP} (h : l = m) (s : MA × LP) : l.foldl (stp i) s = m.foldl (stp i) s := by rw [h]
theorem rst_ext {f g : RF} {n : Nat} (hn : n ≤ 7) (h : ∀ x y, x < 7 → y < 7 → f x y = g x y) {s : MA × LP} (hs : okQ n s) : ∀ k, rst f n s k = rst g n s k
 | 0 => rfl
 | k + 1 => by
   have ih := rst_ext hn h hs k
   have ho := rst_ok (f := f) hs k
   rw [rst, rst, ← ih]
   by_cases hk : k < (rst f n s k).2.length
   · rw [if_pos hk, if_pos hk]
     have hm : (rst f n s k).2.getD k (0, 0) ∈ (rst f n s k).2 := mem_getD hk
     have hr := ho.rg _ hm
     exact fold_ext (fcl_ext h (by omega) (by omega) hn) _
   · rw [if_neg hk, if_neg hk]
theorem rch_ext {f g : RF} {n : Nat} (hn : n ≤ 7) (h : ∀ x y, x < 7 → y < 7 → f x y = g x y) {a b : Int} (ha : 0 ≤ a ∧ a < n) (hb : 0 ≤ b ∧ b < n) : rch f n a b = rch g n a b := rst_ext hn h (rs0_ok ha hb) 49
theorem stp_sub {i : Nat} {s : MA × LP} {y z : PA} (h : z ∈ s.2) : z ∈ (stp i s y).2 := by
 unfold stp
 split
 · exact h
 · exact List.mem_append_left _ h
theorem fold_sub {i : Nat} {z : PA} : ∀ {l : LP} {s : MA × LP}, z ∈ s.2 → z ∈ (l.foldl (stp i) s).2
 | [], _, h => h
 | _ :: l, _, h => fold_sub (l := l) (stp_sub h)
theorem rst_sub {f : RF} {n : Nat} {s : MA × LP} {z : PA} (h : z ∈ s.2) : ∀ k, z ∈ (rst f n s k).2
 | 0 => h
 | k + 1 => by
   have ih := rst_sub (f := f) (n := n) h k
   rw [rst]
   split
   · exact fold_sub ih
   · exact ih
theorem rch_self {f : RF} {n : Nat} {a b : Int} : (a, b) ∈ (rch f n a b).2 := rst_sub (by simp [rs0]) _
noncomputable abbrev X52 : Cy := Xm [e48, e62, e63] 1 (drOf [(16, 12015)])
noncomputable def L52_0 : Code := lp (bodyOf Try.f52) 0
noncomputable def L52_2 : Code := lp (bodyOf Try.f52) 2
noncomputable def L52_4 : Code := lp (bodyOf Try.f52) 4
noncomputable def R52 (n : Nat) (f : RF) : Exit → St → Prop := RetR X52 true false [.cell 2 71, .tmp 3] [.ar Q7 7 (mkR (orR n f).1), .bool (orR n f).2] [grO n f]
noncomputable def sa52 (n : Nat) (f : RF) (x : Nat × RF × RF) : St := ⟨(dd 2 ++ .ptr 1 0 [] :: .dead :: .ptr 2 0 [] :: .ptr 3 0 [] :: dd 66), [grO n f, Z7, relO x.2.1, grO n x.2.2]⟩
noncomputable def xa52 (n : Nat) (f : RF) : List (List Nat × Ex) := [([2, 4], ⟨0, RF, fun o => orI n 50 zf f = some o, fun o => ⟨(dd 2 ++ .ptr 1 0 [] :: .dead :: .ptr 2 0 [] :: dd 67), [grO n f, Z7, relO o]⟩⟩)]
structure ia52 (n : Nat) (f : RF) (x : Nat × RF × RF) : Prop where
 e : orI n x.1 x.2.1 x.2.2 = orI n 50 zf f
 k : (L62 n x.2.2).length < x.1
noncomputable def ha52 (n : Nat) (f : RF) : Hint := ⟨chk 1 [2, 4, 5] (ia52 n f) (sa52 n f), (xa52 n f).map (·.2)⟩
noncomputable def sb52 (n : Nat) (f : RF) (o g : RF) (c : LP) (i : Nat) : St := ⟨(dd 2 ++ .ptr 1 0 [] :: .dead :: .ptr 2 0 [] :: .ptr 3 0 [] :: .dead :: .own 4 0 :: dd 19 ++ .own 4 0 :: .int .i64 c.length :: .int .i64 i :: dd 42), [grO n f, Z7, relO (adL o (c.take i)), grO n g, .sc 0 91 AR c]⟩
noncomputable def xb52 (n : Nat) (f : RF) (o g : RF) (c : LP) : List (List Nat × Ex) := [([2, 4, 5, 7], ⟨2, Unit, fun _ => True, fun _ => ⟨(dd 2 ++ .ptr 1 0 [] :: .dead :: .ptr 2 0 [] :: .ptr 3 0 [] :: .dead :: .own 4 0 :: dd 64), [grO n f, Z7, relO (adL o c), grO n g, .sc 0 91 AR c]⟩⟩)]
noncomputable def hb52 (n : Nat) (f : RF) (o g : RF) (c : LP) : Hint := ⟨chk 1 [2, 4, 5, 7, 27, 28, 29] (fun i => i ≤ c.length) (sb52 n f o g c), (xb52 n f o g c).map (·.2)⟩
noncomputable def sc52 (n : Nat) (f : RF) (o g : RF) (c : LP) (i : Nat) : St := ⟨(dd 2 ++ .ptr 1 0 [] :: .dead :: .ptr 2 0 [] :: .ptr 3 0 [] :: dd 34 ++ .own 4 0 :: .int .i64 c.length :: .int .i64 i :: dd 29), [grO n f, Z7, relO o, grO n (dlL g (c.take i)), .sc 0 91 AR c]⟩
noncomputable def xc52 (n : Nat) (f : RF) (o g : RF) (c : LP) : List (List Nat × Ex) := [([2, 4, 5], ⟨4, Unit, fun _ => c.any (ng o) = false, fun _ => ⟨(dd 2 ++ .ptr 1 0 [] :: .dead :: .ptr 2 0 [] :: .ptr 3 0 [] :: dd 66), [grO n f, Z7, relO o, grO n (dlL g c)]⟩⟩)]
noncomputable def hc52 (n : Nat) (f : RF) (o g : RF) (c : LP) : Hint := ⟨chk 1 [2, 4, 5, 40, 41, 42] (fun i => i ≤ c.length ∧ (c.take i).any (ng o) = false) (sc52 n f o g c), (xc52 n f o g c).map (·.2)⟩
def rg7 (c : LP) : Prop := c.length ≤ 49 ∧ ∀ y, y ∈ c → (0 ≤ y.1 ∧ y.1 < 7) ∧ (0 ≤ y.2 ∧ y.2 < 7)
theorem idx7 {i : Int} (h : 0 ≤ i ∧ i < 7) : idxPre i 7 := by unfold idxPre; omega
theorem adL_take {o : RF} {c : LP} {i : Nat} (h : i < c.length) : adL o (c.take (i + 1)) = upd (adL o (c.take i)) (c.getD i (0, 0)).1.toNat (c.getD i (0, 0)).2.toNat true := by
 unfold adL
 rw [take_getD (d := (0, 0)) h, List.foldl_append]; try rfl
theorem dlL_take {g : RF} {c : LP} {i : Nat} (h : i < c.length) : dlL g (c.take (i + 1)) = upd (upd (dlL g (c.take i)) (c.getD i (0, 0)).1.toNat (c.getD i (0, 0)).2.toNat false) (c.getD i (0, 0)).2.toNat (c.getD i (0, 0)).1.toNat false := by
 unfold dlL
 rw [take_getD (d := (0, 0)) h, List.foldl_append]; try rfl
theorem loop52b (n : Nat) (f : RF) (o g : RF) (c : LP) (hc : rg7 c) (R : Exit → St → Prop) : LoopOK X52 L52_2 (hb52 n f o g c) R := by
 refine loop_ok (Xm_ok _ _ _) (H := fun _ _ => none) [2, 4, 5, 7, 27, 28, 29] (fun i => i ≤ c.length) (sb52 n f o g c) (fun i => c.length - i) (xb52 n f o g c) 200 fun (i : Nat) hi => ?_
 refine of_eq (q := (fun (l : Int) => (fun (j : Prop) => (fun (k : Prop) => (fun (h : Nat) => (fun (e : Rl) => (fun (d : Prop) => (fun (b : Rl) => (fun (a : Int × Int) => j ∧ (l < (h : Int) → idxPre l (List.length c) ∧ j ∧ j ∧ j ∧ j ∧ j ∧ j ∧ j ∧ idxPre a.fst (7 : Nat) ∧ idxPre a.snd (7 : Nat) ∧ j ∧ inR .i64 (l + 1) ∧ j ∧ ∃ (y : Nat), (y ≤ h ∧ h - y < h - i) ∧ (j ∧ j ∧ j ∧ j ∧ j ∧ (h : Int) = (h : Int) ∧ l + 1 = (y : Int) ∧ j) ∧ k ∧ b = b ∧ List.set e (Int.toNat a.fst) (List.set (List.getD e (Int.toNat a.fst) [false, false, false, false, false, false, false]) (Int.toNat a.snd) true) = mkR (adL o (List.take y c)) ∧ d) ∧ (¬l < (h : Int) → ∃ (y : Unit), j ∧ (j ∧ j ∧ j ∧ j ∧ j) ∧ k ∧ b = b ∧ e = mkR (adL o c) ∧ d)) (List.getD c i ((0 : Int), (0 : Int)))) (mkR fun (x x_1 : Nat) => false)) (((n : Int) = (n : Int) ∧ mkR g = mkR g ∧ j) ∧ c = c ∧ j)) (mkR (adL o (List.take i c)))) (List.length c)) ((n : Int) = (n : Int) ∧ mkR f = mkR f ∧ j)) (True)) ((i : Int))) (by kernel_rfl) ?_
 simp only [zz]
 refine ⟨fun h1 => ?_, fun h1 => by rw [List.take_of_length_le (by omega)]⟩
 have h1 : i < c.length := by omega
 have hy := hc.2 _ (mem_getD (d := (0, 0)) h1)
 have h2 := hc.1
 have hst := adL_take (o := o) h1
 rw [mkR_set (by omega), ← hst]
 exact ⟨idx_nat h1, idx7 hy.1, idx7 hy.2, in1 (by omega), i + 1, ⟨by omega, by omega⟩, by omega, rfl⟩
theorem loop52c (n : Nat) (f : RF) (o g : RF) (c : LP) (hc : rg7 c) (hR : c.any (ng o) = true → orR n f = (zf, false)) : LoopOK X52 L52_4 (hc52 n f o g c) (bodyR 1 (xa52 n f) (R52 n f)) := by
 refine loop_ok (Xm_ok _ _ _) (H := fun _ _ => none) [2, 4, 5, 40, 41, 42] (fun i => i ≤ c.length ∧ (c.take i).any (ng o) = false) (sc52 n f o g c) (fun i => c.length - i) (xc52 n f o g c) 200 fun (i : Nat) hi => ?_
 refine of_eq (q := (fun (B : Nat) => (fun (z : Nat) => (fun (v : Int) => (fun (t : Int) => (fun (s : Rl) => (fun (p : Nat) => (fun (m : Rl) => (fun (l : Int) => (fun (j : Prop) => (fun (k : Prop) => (fun (e : Prop) => (fun (d : Int × Int) => (fun (A : Nat) => (fun (w : Prop) => (fun (r : Prop) => (fun (q : Nat) => (fun (b : List Bool) => (fun (u : Bool) => (fun (h : List (List Bool)) => (fun (a : Nat) => j ∧ (t < l → idxPre t (List.length c) ∧ j ∧ j ∧ j ∧ j ∧ j ∧ j ∧ j ∧ r ∧ w ∧ j ∧ (u = true → j ∧ j ∧ j ∧ (j ∧ j) ∧ ([b, b, b, b, b, b, b] = mkR (orR n f).fst ∧ false = (orR n f).snd ∧ j) ∧ k ∧ j) ∧ (u = false → j ∧ e ∧ j ∧ e ∧ j ∧ e ∧ j ∧ e ∧ j ∧ e ∧ j ∧ e ∧ j ∧ e ∧ j ∧ e ∧ j ∧ e ∧ w ∧ e ∧ r ∧ e ∧ j ∧ ((j ∧ AV.int .i64 d.fst = AV.int .i64 d.fst) ∧ (j ∧ AV.ptr a p [p] = AV.ptr a p [p]) ∧ (j ∧ AV.int .i64 d.snd = AV.int .i64 d.snd) ∧ (j ∧ AV.ptr a p [z] = AV.ptr a p [z]) ∧ j) ∧ j ∧ ((j ∧ AV.ptr B p [z] = AV.ptr B p [z]) ∧ e) ∧ r ∧ ((r ∧ AV.ptr B p [z, q] = AV.ptr B p [z, q]) ∧ e) ∧ w ∧ j ∧ j ∧ inR .i64 (t + 1) ∧ j ∧ ∃ (y : Nat), ((y ≤ List.length c ∧ (List.take y c).any (ng o) = false) ∧ List.length c - y < List.length c - i) ∧ (j ∧ j ∧ j ∧ j ∧ l = l ∧ t + 1 = (y : Int) ∧ j) ∧ k ∧ m = m ∧ mkR o = mkR o ∧ (v = v ∧ h.set q (List.set (h.getD q b) A false) = mkR (dlL g (List.take y c)) ∧ j) ∧ c = c ∧ j)) ∧ (¬t < l → ∃ (y : Unit), List.any c (ng o) = false ∧ (j ∧ j ∧ j ∧ j) ∧ k ∧ m = m ∧ mkR o = mkR o ∧ (v = v ∧ s = mkR (dlL g c) ∧ j) ∧ j)) ((refine1 { tm := [AV.dead, AV.dead, AV.ptr z p [], AV.dead, AV.ptr (2 : Nat) p [], AV.ptr B p [], AV.dead, AV.dead, AV.dead, AV.dead, AV.dead, AV.dead, AV.dead, AV.dead, AV.dead, AV.dead, AV.dead, AV.dead, AV.dead, AV.dead, AV.dead, AV.dead, AV.dead, AV.dead, AV.dead, AV.dead, AV.dead, AV.dead, AV.dead, AV.dead, AV.dead, AV.dead, AV.dead, AV.dead, AV.dead, AV.dead, AV.dead, AV.dead, AV.dead, AV.dead, AV.own (4 : Nat) p, AV.int .i64 l, AV.int .i64 t, AV.pb (t < l) inferInstance, AV.dead, AV.dead, AV.dead, AV.dead, AV.dead, AV.dead, AV.dead, AV.dead, AV.dead, AV.dead, AV.dead, AV.dead, AV.dead, AV.dead, AV.dead, AV.dead, AV.dead, AV.dead, AV.dead, AV.dead, AV.dead, AV.dead, AV.dead, AV.dead, AV.dead, AV.dead, AV.dead, AV.dead], ob := (sc52 n f o g c i).ob } (Operand.tmp (43 : Nat)) AV.tt).ob.length)) (List.set s A (List.set (List.getD s A b) q false))) (List.getD (List.getD (mkR o) q b) A false)) ([false, false, false, false, false, false, false])) (Int.toNat d.snd)) (idxPre d.snd (7 : Nat))) (idxPre d.fst (7 : Nat))) (Int.toNat d.fst)) (List.getD c i ((0 : Int), (0 : Int)))) (true = true)) (v = v ∧ mkR f = mkR f ∧ j)) (True)) ((↑(List.length c) : Int))) (mkR fun (x x_1 : Nat) => false)) ((0 : Nat))) (mkR (dlL g (List.take i c)))) ((i : Int))) ((n : Int))) ((1 : Nat))) ((3 : Nat))) (by kernel_rfl) ?_
 simp only [zz]
 obtain ⟨i1, i2⟩ := hi
 refine ⟨fun h1 => ?_, fun h1 => by rw [List.take_of_length_le (show c.length ≤ i by omega)] at i2 ⊢; exact ⟨i2, rfl⟩⟩
 have h1 : i < c.length := by omega
 have hm := mem_getD (d := (0, 0)) h1
 have hy := hc.2 _ hm
 have h2 := hc.1
 have hst := dlL_take (g := g) h1
 have htk := take_getD (d := (0, 0)) h1
 have hany : ng o (c.getD i (0, 0)) = false → (c.take (i + 1)).any (ng o) = false := fun h => by rw [htk, List.any_append, i2, List.any_cons, h]; try rfl
 rw [rel_get o (by omega) (by omega), mkR_set (by omega), mkR_set (by omega), ← hst]
 generalize c.getD i (0, 0) = y at *
 refine ⟨idx_nat h1, idx7 hy.2, idx7 hy.1, fun h => ?_, fun h => ⟨idx7 hy.1, idx7 hy.2, idx7 hy.2, idx7 hy.2, idx7 hy.1, in1 (by omega), i + 1, ⟨⟨by omega, hany h⟩, by omega⟩, by omega, rfl⟩⟩
 rw [hR (List.any_eq_true.mpr ⟨y, hm, h⟩)]
 exact ⟨rfl, rfl⟩
theorem rch_rg7 {f : RF} {n : Nat} (hn : n ≤ 7) {a b : Int} (ha : 0 ≤ a ∧ a < n) (hb : 0 ≤ b ∧ b < n) : rg7 (rch f n a b).2 := by
 have h := rch_ok (f := f) ha hb
 refine ⟨h.len hn, fun y hy => ?_⟩
 have := h.rg y hy
 omega
def rc52 (n : Nat) (x : Nat × RF × RF) : LP := (rch x.2.2 n ((L62 n x.2.2).getD 0 (0, 0)).1 ((L62 n x.2.2).getD 0 (0, 0)).2).2
theorem L62_rg {n : Nat} {g : RF} (hn : n ≤ 7) (h : L62 n g ≠ []) : (0 ≤ ((L62 n g).getD 0 (0, 0)).1 ∧ ((L62 n g).getD 0 (0, 0)).1 < n) ∧ (0 ≤ ((L62 n g).getD 0 (0, 0)).2 ∧ ((L62 n g).getD 0 (0, 0)).2 < n) := by
 have hm : (L62 n g).getD 0 (0, 0) ∈ L62 n g := mem_getD (List.length_pos_iff.mpr h)
 obtain ⟨a, b, h1, h2, h3, _⟩ := (L62_mem hn).mp hm
 rw [h1]; simp only; omega
theorem orI_step {n k : Nat} {o g : RF} (h : L62 n g ≠ []) : orI n (k + 1) o g = if (rc52 n (k, o, g)).any (ng (adL o (rc52 n (k, o, g)))) = true then none else orI n k (adL o (rc52 n (k, o, g))) (dlL g (rc52 n (k, o, g))) := by
 unfold rc52
 rw [orI]
 split
 · rename_i h1; exact absurd h1 h
 · rename_i y l h1
   simp only [h1, List.getD_cons_zero]
theorem dl_less {n : Nat} (hn : n ≤ 7) {k : Nat} {o g : RF} (h : L62 n g ≠ []) : (L62 n (dlL g (rc52 n (k, o, g)))).length < (L62 n g).length := by
 have hr := L62_rg hn h
 have hg := rch_rg7 (f := g) hn hr.1 hr.2
 have hp : ∀ z, z ∈ rc52 n (k, o, g) → 0 ≤ z.1 ∧ 0 ≤ z.2 := fun z hz => by have := hg.2 z hz; omega
 have hm : (L62 n g).getD 0 (0, 0) ∈ L62 n g := mem_getD (List.length_pos_iff.mpr h)
 obtain ⟨a, b, h1, h2, h3, h4⟩ := (L62_mem hn).mp hm
 have hself : ((a : Int), (b : Int)) ∈ rc52 n (k, o, g) := by
   unfold rc52
   simp only
   rw [h1]
   exact rch_self
 refine prK_lt (a := a) (b := b) (fun x y hxy => ?_) (by omega) (by unfold P62; rw [decide_eq_true h2, decide_eq_true h3, h4]; rfl) ?_ 49 (by omega)
 · simp only [P62, Bool.and_eq_true] at hxy ⊢
   exact ⟨hxy.1, ((dlL_iff hp).mp hxy.2).1⟩
 · cases hq : P62 n (dlL g (rc52 n (k, o, g))) a b with
   | false => rfl
   | true =>
     simp only [P62, Bool.and_eq_true] at hq
     exact absurd hself ((dlL_iff hp).mp hq.2).2.1
theorem loop52a (n : Nat) (n1 : 1 ≤ n) (hn : n ≤ 7) (f : RF) : LoopOK X52 L52_0 (ha52 n f) (R52 n f) := by
 refine loop_ok (Xm_ok _ _ _) (H := fun x b => if b = 2 then some (hb52 n f x.2.1 x.2.2 (rc52 n x)) else some (hc52 n f (adL x.2.1 (rc52 n x)) x.2.2 (rc52 n x))) [2, 4, 5] (ia52 n f) (sa52 n f) (fun x => x.1) (xa52 n f) 200 fun (x : Nat × RF × RF) hx => ?_
 obtain ⟨k, o, g⟩ := x
 have hL := fun hc R => loop52b n f o g (rc52 n (k, o, g)) hc R
 have hM := fun hc hR => loop52c n f (adL o (rc52 n (k, o, g))) g (rc52 n (k, o, g)) hc hR
 have e1 : L62 n (rg (mkR g)) = L62 n g := L62_ext fun x y hx hy => rg_mk hx hy
 refine of_eq (q := (fun (l : Int) => (fun (h : Prop) => (fun (q : Prop) => (fun (e : Rl) => (fun (j : Nat) => (fun (d : Int) => (fun (m : Prop) => (fun (i : Prop) => (fun (c : Rl) => (fun (b : LP) => (fun (a : Int × Int) => (fun (p : LP) => ((okG (d, e) ∧ q ∧ m ∧ h) ∧ q) ∧ h ∧ h ∧ h ∧ h ∧ ((j : Int) = l → ∃ (y : Nat → Nat → Bool), orI n (50 : Nat) zf f = some y ∧ (h ∧ q) ∧ i ∧ c = c ∧ mkR o = mkR y ∧ h) ∧ (¬(j : Int) = l → h ∧ idxPre l j ∧ h ∧ ((okX ((d, e), a.fst, a.snd) ∧ (h ∧ (a.fst = a.fst ∧ a.snd = a.snd ∧ h) ∧ h) ∧ m ∧ h) ∧ q) ∧ h ∧ h ∧ h ∧ h ∧ h ∧ h ∧ h ∧ h ∧ LoopOK X52 L52_2 (hb52 n f o g b) (bodyR (Xm [e48, e62, e63] (1 : Nat) (drOf [((16 : Nat), (12015 : Nat))])).m0 (xa52 n f) (R52 n f)) ∧ (∃ (y : Nat), y ≤ List.length b ∧ (h ∧ h ∧ h ∧ h ∧ h ∧ (↑(List.length p) : Int) = (↑(List.length b) : Int) ∧ l = (y : Int) ∧ h) ∧ i ∧ c = c ∧ mkR o = mkR (adL o (List.take y b)) ∧ m ∧ p = b ∧ h) ∧ (∀ (y : Unit), h → h ∧ h ∧ h ∧ LoopOK X52 L52_4 (hc52 n f (adL o b) g b) (bodyR (1 : Nat) (xa52 n f) (R52 n f)) ∧ (∃ (y : Nat), (y ≤ List.length b ∧ (List.take y b).any (ng (adL o b)) = false) ∧ (h ∧ h ∧ h ∧ h ∧ (↑(List.length b) : Int) = (↑(List.length b) : Int) ∧ l = (y : Int) ∧ h) ∧ i ∧ c = c ∧ mkR (adL o b) = mkR (adL o b) ∧ (d = d ∧ e = mkR (dlL g (List.take y b)) ∧ h) ∧ b = b ∧ h) ∧ (∀ (y : Unit), List.any b (ng (adL o b)) = false → ∃ (y : Nat × RF × RF), (ia52 n f y ∧ y.fst < k) ∧ (h ∧ h ∧ q) ∧ i ∧ c = c ∧ mkR (adL o b) = mkR y.snd.fst ∧ (d = d ∧ mkR (dlL g b) = mkR y.snd.snd ∧ h) ∧ h) ∧ h) ∧ h)) ((rchx ((d, e), a.fst, a.snd)).snd)) (List.getD (L62 n (rg e)) (0 : Nat) (l, l))) (rc52 n (k, o, g))) (mkR fun (x x_1 : Nat) => false)) (d = d ∧ mkR f = mkR f ∧ h)) (d = d ∧ e = e ∧ h)) ((n : Int))) (List.length (L62 n (rg e)))) (mkR g)) (h ∧ h)) (True)) ((0 : Int))) (by kernel_rfl) ?_
 simp only [zz]
 rw [e1]
 obtain ⟨x1, x2⟩ := hx
 simp only at x1 x2
 have hG : okG ((n : Int), mkR g) := ⟨mk_rg g, by simp only; omega, by simp only; omega⟩
 obtain ⟨j, rfl⟩ : ∃ j, k = j + 1 := ⟨k - 1, by omega⟩
 refine ⟨hG, fun h => ?_, fun h => ?_⟩
 · have h : L62 n g = [] := List.length_eq_zero_iff.mp (by omega)
   refine ⟨o, ?_, rfl⟩
   rw [← x1, orI, h]
 · have h : L62 n g ≠ [] := fun e => h (by rw [e]; rfl)
   have hr := L62_rg hn h
   have ec : rchx (((n : Int), mkR g), ((L62 n g).getD 0 (0, 0)).1, ((L62 n g).getD 0 (0, 0)).2) = rch g n ((L62 n g).getD 0 (0, 0)).1 ((L62 n g).getD 0 (0, 0)).2 := rch_ext hn (fun x y hx hy => rg_mk hx hy) hr.1 hr.2
   have ec2 : (rch g n ((L62 n g).getD 0 (0, 0)).1 ((L62 n g).getD 0 (0, 0)).2).2 = rc52 n (j + 1, o, g) := rfl
   have hc : rg7 (rc52 n (j + 1, o, g)) := rch_rg7 hn hr.1 hr.2
   have hst := orI_step (k := j) (o := o) h
   have hls := dl_less hn (k := j + 1) (o := o) h
   rw [x1] at hst
   rw [ec, ec2]
   have ec3 : rc52 n (j, o, g) = rc52 n (j + 1, o, g) := rfl
   rw [ec3] at hst
   refine ⟨idx_nat (List.length_pos_iff.mpr h), ⟨hG, hr.1, hr.2⟩, hL hc _, ⟨0, Nat.zero_le _, ⟨rfl, rfl⟩, rfl, rfl⟩, fun _ _ => ⟨hM hc fun ha => ?_, ⟨0, ⟨Nat.zero_le _, rfl⟩, rfl, rfl⟩, fun _ ha => ⟨(j, adL o (rc52 n (j + 1, o, g)), dlL g (rc52 n (j + 1, o, g))), ⟨⟨?_, ?_⟩, ?_⟩, ?_⟩⟩⟩
   · rw [if_pos ha] at hst
     unfold orR
     rw [hst]
   · rw [if_neg (by rw [ha]; decide)] at hst
     simp only
     rw [hst]
   · simp only; omega
   · simp only; omega
   · simp only; exact ⟨trivial, trivial⟩
theorem L62_len {n : Nat} {f : RF} : (L62 n f).length < 50 := Nat.lt_succ_of_le (prK_len _ 7 49)
theorem call52 (n : Nat) (n1 : 1 ≤ n) (hn : n ≤ 7) (f : RF) : GCall Try.prog gl 52 true [.ptr 0 0 []] [grO n f] [.ar Q7 7 (mkR (orR n f).1), .bool (orR n f).2] [grO n f] := by
 refine gcall_of (X := X52) ((Xm_ok _ _ _)) (f := 52) (fn := Try.f52) (c := bodyOf Try.f52) (by kernel_rfl) (by kernel_rfl) (view := false) (rvs := [.cell 2 71, .tmp 3]) (by kernel_rfl) (H := (fun _ => some (ha52 n f))) 150 (by kernel_rfl) ?_
 have hL := loop52a n n1 hn f
 refine of_eq (q := (fun (c : Prop) => (fun (b : Prop) => (fun (a : List Bool) => c ∧ c ∧ c ∧ c ∧ c ∧ c ∧ c ∧ c ∧ LoopOK X52 L52_0 (ha52 n f) (R52 n f) ∧ (∃ (y : Nat × RF × RF), ia52 n f y ∧ (c ∧ c ∧ c ∧ c) ∧ b ∧ ([a, a, a, a, a, a, a] = mkR fun (x x_1 : Nat) => false) ∧ [a, a, a, a, a, a, a] = mkR y.snd.fst ∧ ((n : Int) = (n : Int) ∧ mkR f = mkR y.snd.snd ∧ c) ∧ c) ∧ (∀ (y : Nat → Nat → Bool), orI n (50 : Nat) zf f = some y → c ∧ c ∧ mkR y = mkR (rg (mkR y)) ∧ c ∧ c ∧ (c ∧ c) ∧ (mkR y = mkR (orR n f).fst ∧ trB (rg (mkR y)) = (orR n f).snd ∧ c) ∧ b ∧ c) ∧ c) ([false, false, false, false, false, false, false])) ((n : Int) = (n : Int) ∧ mkR f = mkR f ∧ c)) (True)) (by kernel_rfl) ?_
 simp only [zz]
 refine ⟨hL, ⟨(50, zf, f), ⟨rfl, L62_len⟩, zR.symm, zR.symm, rfl⟩, fun y hy => ?_⟩
 unfold orR
 rw [hy]
 exact ⟨mk_rg y, rfl, trB_ext fun a b ha hb => rg_mk ha hb⟩
noncomputable def e52 : Entry Try.prog gl := entryW 52 ⟨Try.f52, by kernel_rfl, by kernel_rfl, by kernel_rfl⟩ true getG okG true (fun _ => [.ptr 0 0 []]) (fun x => [grQ x]) (fun x => [.ar Q7 7 (mkR (orR x.1.toNat (rg x.2)).1), .bool (orR x.1.toNat (rg x.2)).2]) (fun x => [grQ x]) (fun x h => by
 rw [grQ_ok h]; exact call52 _ (by have := h.n1; omega) (by have := h.n7; omega) _)
end Go.Am.Or

/- Orders: Orient, Others, and orders that are given. -/
namespace Go.Am.Or
open Go Go.Am Go.Proofs
abbrev n0 : Int := 0
/-- The answer of Orient. -/
def orL (n : Nat) (l : LP) : LP := if (orR n (eg l)).2 = true then prK (orR n (eg l)).1 7 49 else []
theorem orR_ext {n : Nat} {f g : RF} (n1 : 1 ≤ n) (hn : n ≤ 7) (h : ∀ x y, x < 7 → y < 7 → f x y = g x y) : orR n f = orR n g := by
 have key : ∀ k o, ∀ f g : RF, (∀ x y, x < 7 → y < 7 → f x y = g x y) → orI n k o f = orI n k o g := by
   intro k
   induction k with
   | zero => intros; try rfl
   | succ k ih =>
     intro o f g h
     have eL : L62 n f = L62 n g := L62_ext h
     rw [orI, orI, eL]
     cases hL : L62 n g with
     | nil => rfl
     | cons y l =>
       have hm : y ∈ L62 n g := by rw [hL]; simp
       obtain ⟨a, b, h1, h2, h3, _⟩ := (L62_mem hn).mp hm
       have ha : 0 ≤ y.1 ∧ y.1 < n := by rw [h1]; simp only; omega
       have hb : 0 ≤ y.2 ∧ y.2 < n := by rw [h1]; simp only; omega
       have er : rch f n y.1 y.2 = rch g n y.1 y.2 := rch_ext hn h ha hb
       have hc := rch_rg7 (f := g) hn ha hb
       simp only [er]
       have ed : ∀ x z, x < 7 → z < 7 → dlL f (rch g n y.1 y.2).2 x z = dlL g (rch g n y.1 y.2).2 x z := fun x z hx hz => by
         have hp : ∀ z, z ∈ (rch g n y.1 y.2).2 → 0 ≤ z.1 ∧ 0 ≤ z.2 := fun z hz => by have := hc.2 z hz; omega
         rw [Bool.eq_iff_iff, dlL_iff hp, dlL_iff hp, h x z hx hz]
       rw [ih _ _ _ ed]
 unfold orR
 rw [key 50 zf f g h]
theorem okG_mk {n : Nat} (n1 : 1 ≤ n) (hn : n ≤ 7) (f : RF) : okG ((n : Int), mkR f) := ⟨mk_rg f, by simp only; omega, by simp only; omega⟩
theorem prK_rg (f : RF) : prK (rg (mkR f)) 7 49 = prK f 7 49 := prK_ext (fun x y hx hy => rg_mk hx hy) 49 (Nat.le_refl _)
theorem otR_ext {n : Nat} {f g : RF} (h : ∀ x y, x < 7 → y < 7 → f x y = g x y) : ∀ x y, x < 7 → y < 7 → otR n f x y = otR n g x y := fun x y hx hy => by unfold otR; rw [h x y hx hy]
theorem L46_ext {n : Nat} {f g : RF} (h : ∀ x y, x < 7 → y < 7 → f x y = g x y) : L46 n f = L46 n g :=
 prK_ext (fun x y hx hy => by unfold P46; rw [h x y hx hy]) 49 (Nat.le_refl _)
theorem rgm {f : RF} : ∀ x y, x < 7 → y < 7 → rg (mkR f) x y = f x y := fun _ _ hx hy => rg_mk hx hy
theorem call24 (n : Nat) (l : LP) (h : grOk n l) : GCall Try.prog gl 24 false [.int .i64 n, .sl P2 l] [] [.sl P2 (orL n l), .bool (orR n (eg l)).2, .int .i64 0] [] := by
 refine gcall_of (X := (X [e45, e52, e61])) ((X_ok _)) (f := 24) (fn := Try.f24) (c := bodyOf Try.f24) (by kernel_rfl) (by kernel_rfl) (view := true) (rvs := [.tmp 4, .tmp 5, .tmp 6]) (by kernel_rfl) (H := fun _ => none) 150 (by kernel_rfl) ?_
 refine of_eq (q := (fun (e : Prop) => (fun (d : Rl) => (fun (c : Prop) => (fun (b : Prop) => (fun (a : RF × Bool) => c ∧ c ∧ c ∧ c ∧ c ∧ (grOk (n : Int) l ∧ c) ∧ c ∧ c ∧ c ∧ c ∧ c ∧ c ∧ c ∧ (¬e → c ∧ b) ∧ (¬¬e → c ∧ ((okG ((n : Int), d) ∧ (c ∧ c) ∧ ((n : Int) = (n : Int) ∧ d = d ∧ c) ∧ c) ∧ c ∧ c) ∧ c ∧ c ∧ c ∧ c ∧ c ∧ c ∧ c ∧ c ∧ ((!a.snd) = true → b) ∧ ((!a.snd) = false → c ∧ (mkR a.fst = mkR (rg (mkR a.fst)) ∧ c) ∧ c ∧ c ∧ c ∧ c ∧ (prK (rg (mkR a.fst)) (7 : Nat) (49 : Nat) = orL n l ∧ true = (orR n (eg l)).snd ∧ e ∧ c) ∧ c))) (orR n (rg d))) (c ∧ c ∧ c ∧ c ∧ (([] : List (Int × Int)) = orL n l ∧ false = (orR n (eg l)).snd ∧ e ∧ c) ∧ c)) (True)) (mkR (eg l))) ((0 : Int) = 0)) (by kernel_rfl) ?_
 simp only [zz]
 obtain ⟨n1, n2⟩ := h.hn
 rw [orR_ext (n := n) (by omega) (by omega) (rgm (f := eg l)), prK_rg]
 unfold orL
 refine ⟨h, fun h1 => absurd trivial h1, fun _ => ⟨okG_mk (by omega) (by omega) _, fun h2 => ?_, fun h2 => ?_⟩⟩
 · have h2 : (orR n (eg l)).2 = false := by simpa using h2
   rw [h2]; exact ⟨rfl, rfl⟩
 · have h2 : (orR n (eg l)).2 = true := by simpa using h2
   rw [h2]; exact ⟨mk_rg _, rfl, rfl⟩
def arOk (n : Int) (l : LP) (k : Nat) : Prop := (0 ≤ (l.getD k (0, 0)).1 ∧ (l.getD k (0, 0)).1 < n) ∧ (0 ≤ (l.getD k (0, 0)).2 ∧ (l.getD k (0, 0)).2 < n) ∧ ¬ (l.getD k (0, 0)).1 = (l.getD k (0, 0)).2 ∧ (0 < k → lt2 (l.getD (k - 1) (0, 0)) (l.getD k (0, 0)))
/-- An order. -/
structure orOk (n : Int) (l : LP) : Prop where
 hn : 1 ≤ n ∧ n ≤ 7
 he : ∀ k, k < l.length → arOk n l k
 hl : l.length ≤ 1000
 ht : trB (adL zf l) = true
noncomputable def L70_0 : Code := lp (bodyOf Try.f70) 0
def st70 (n : Int) (l : LP) (k : Nat) : St := ⟨(.int .i64 n :: .sl P2 l :: dd 2 ++ .ptr 0 0 [] :: .dead :: .ptr 1 0 [] :: dd 9 ++ .sl P2 l :: .int .i64 l.length :: .int .i64 k :: dd 53), [Z7, relO (adL zf (l.take k))]⟩
def ex70 (n : Int) (l : LP) : List (List Nat × Ex) := [([4, 6], ⟨0, Unit, fun _ => True, fun _ => ⟨(dd 4 ++ .ptr 0 0 [] :: .dead :: .ptr 1 0 [] :: dd 65), [Z7, relO (adL zf l)]⟩⟩)]
def h70 (n : Int) (l : LP) : Hint := ⟨chk 0 [0, 1, 4, 6, 16, 17, 18] (fun k => k ≤ l.length) (st70 n l), (ex70 n l).map (·.2)⟩
noncomputable abbrev X70 : Cy := X [e48, e77]
noncomputable def R70 (l : LP) : Exit → St → Prop := RetR X70 true false [.cell 4 71, .tmp 5] [.ar Q7 7 (mkR (adL zf l)), .int .i64 0] []
theorem loop70 (n : Int) (l : LP) (h : orOk n l) : LoopOK X70 L70_0 (h70 n l) (R70 l) := by
 refine loop_ok (X_ok _) (H := fun _ _ => none) [0, 1, 4, 6, 16, 17, 18] (fun k => k ≤ l.length) (st70 n l) (fun k => l.length - k) (ex70 n l) 200 fun (k : Nat) hk => ?_
 refine of_eq (q := (fun (t : Nat) => (fun (q : Int) => (fun (o : Nat) => (fun (m : Prop) => (fun (i : Int) => (fun (p : Prop) => (fun (h : Int) => (fun (g : Rl) => (fun (f : Rl) => (fun (e : Prop) => (fun (c : Prop) => (fun (b : Int × Int) => (fun (s : Int) => (fun (r : Int) => (fun (j : List Int) => (fun (d : Prop) => (fun (a : Prop) => e ∧ (h < (o : Int) → e ∧ idxPre h (List.length l) ∧ e ∧ e ∧ e ∧ e ∧ p ∧ e ∧ m ∧ e ∧ e ∧ e ∧ e ∧ (minI r s < i → e ∧ e ∧ e ∧ e ∧ e ∧ c) ∧ (¬minI r s < i → p ∧ e ∧ m ∧ e ∧ e ∧ e ∧ e ∧ e ∧ e ∧ (n ≤ maxI r s → e ∧ e ∧ e ∧ c) ∧ (¬n ≤ maxI r s → p ∧ e ∧ m ∧ e ∧ e ∧ e ∧ e ∧ (r = s → e ∧ c) ∧ (¬r = s → e ∧ e ∧ e ∧ (i < h → e ∧ e ∧ inR .i64 (h - q) ∧ idxPre (h - q) (List.length l) ∧ e ∧ slPre t t none none none ∧ (t < 1000000 ∧ j.length < 1000000) ∧ e ∧ e ∧ e ∧ (d → c) ∧ (¬d → a)) ∧ (¬i < h → e ∧ e ∧ a))))) ∧ (¬h < (o : Int) → ∃ (y : Unit), e ∧ (e ∧ e ∧ e) ∧ g = g ∧ f = mkR (adL zf l) ∧ e)) (p ∧ e ∧ m ∧ e ∧ idxPre r (7 : Nat) ∧ idxPre s (7 : Nat) ∧ e ∧ inR .i64 (h + q) ∧ e ∧ ∃ (y : Nat), (y ≤ o ∧ o - y < o - k) ∧ (n = n ∧ l = l ∧ e ∧ e ∧ l = l ∧ (o : Int) = (o : Int) ∧ h + q = (y : Int) ∧ e) ∧ g = g ∧ List.set f r.toNat (List.set (List.getD f r.toNat [false, false, false, false, false, false, false]) s.toNat true) = mkR (adL zf (List.take y l)) ∧ e)) (i ≤ cmpL [(List.getD l (h - q).toNat (i, i)).fst, (List.getD l (h - q).toNat (i, i)).snd] j)) (List.take (bHi t none - bLo none) (List.drop (bLo none) [r, s]))) (b.fst)) (b.snd)) (List.getD l k (i, i))) (e ∧ e ∧ e ∧ (e ∧ e) ∧ (f = mkR (adL zf l) ∧ (30 : Int) = i ∧ e) ∧ e)) (True)) (mkR (adL zf (List.take k l)))) (mkR fun (x x_1 : Nat) => false)) ((k : Int))) (idxPre i t)) ((0 : Int))) (idxPre q t)) (List.length l)) ((1 : Int))) ((2 : Nat))) (by kernel_rfl) ?_
 simp only [zz]
 have hl := h.hl
 obtain ⟨n1, n2⟩ := h.hn
 refine ⟨fun h1 => ?_, fun h1 => by rw [List.take_of_length_le (by omega)]⟩
 have h1 : k < l.length := by omega
 obtain ⟨e1, e2, e3, e4⟩ := h.he k h1
 have hst := adL_take (o := zf) h1
 have hc : 0 < k → cmpL [(l.getD (k - 1) (0, 0)).1, (l.getD (k - 1) (0, 0)).2] [(l.getD k (0, 0)).1, (l.getD k (0, 0)).2] = -1 := fun h0 => cmp_lt2 (e4 h0)
 have ek : ((k : Int) - 1).toNat = k - 1 := by omega
 have eT : ∀ x y : Int, List.take (bHi 2 none - bLo none) (List.drop (bLo none) [x, y]) = [x, y] := fun _ _ => rfl
 rw [ek, eT, mkR_set (by omega), ← hst]
 have fin : idxPre 0 2 ∧ idxPre 1 2 ∧ idxPre (l.getD k (0, 0)).1 7 ∧ idxPre (l.getD k (0, 0)).2 7 ∧ inR .i64 ((k : Int) + 1) ∧ ∃ y, (y ≤ l.length ∧ l.length - y < l.length - k) ∧ (k : Int) + 1 = (y : Int) ∧ mkR (adL zf (l.take (k + 1))) = mkR (adL zf (l.take y)) :=
   ⟨i02, i12, by unfold idxPre; omega, by unfold idxPre; omega, by simp only [inR]; omega, k + 1, ⟨by omega, by omega⟩, by omega, rfl⟩
 refine ⟨idx_nat h1, i02, i12, fun h2 => by simp only [minI] at h2; split at h2 <;> omega, fun _ => ⟨i02, i12, fun h2 => by simp only [maxI] at h2; split at h2 <;> omega, fun _ => ⟨i02, i12, fun h2 => absurd h2 e3, fun _ => ⟨fun h2 => ⟨by simp only [inR]; omega, by unfold idxPre; omega, by simp [slPre, bLo, bHi], ⟨by decide, by simp⟩, fun h3 => ?_, fun _ => fin⟩, fun _ => fin⟩⟩⟩⟩
 rw [hc (by omega)] at h3
 omega
theorem call70 (n : Int) (l : LP) (h : orOk n l) : GCall Try.prog gl 70 true [.int .i64 n, .sl P2 l] [] [.ar Q7 7 (mkR (adL zf l)), .int .i64 0] [] := by
 refine gcall_of (X := X70) ((X_ok _)) (f := 70) (fn := Try.f70) (c := bodyOf Try.f70) (by kernel_rfl) (by kernel_rfl) (view := false) (rvs := [.cell 4 71, .tmp 5]) (by kernel_rfl) (H := (fun _ => some (h70 n l))) 150 (by kernel_rfl) ?_
 have hL := loop70 n l h
 refine of_eq (q := (fun (e : Int) => (fun (c : Prop) => (fun (b : Rl) => (fun (a : List Bool) => (fun (f : List (List Bool)) => (fun (d : Prop) => c ∧ c ∧ c ∧ c ∧ c ∧ c ∧ (n < 1 → c ∧ d) ∧ (¬n < 1 → c ∧ c ∧ c ∧ ((7 : Int) < n → d) ∧ (¬(7 : Int) < n → c ∧ c ∧ c ∧ LoopOK X70 L70_0 (h70 n l) (R70 l) ∧ (∃ (y : Nat), y ≤ List.length l ∧ (n = n ∧ l = l ∧ c ∧ c ∧ l = l ∧ (↑(List.length l) : Int) = (↑(List.length l) : Int) ∧ e = (y : Int) ∧ c) ∧ (f = mkR fun (x x_1 : Nat) => false) ∧ f = mkR (adL zf (List.take y l)) ∧ c) ∧ (∀ (y : Unit), c → c ∧ (b = mkR (rg b) ∧ c) ∧ c ∧ ((!trB (rg b)) = true → c ∧ c ∧ c ∧ (c ∧ c) ∧ (b = b ∧ (30 : Int) = e ∧ c) ∧ c) ∧ ((!trB (rg b)) = false → c ∧ c ∧ c ∧ (c ∧ c) ∧ (b = b ∧ e = e ∧ c) ∧ c)) ∧ c))) (c ∧ c ∧ c ∧ (c ∧ c) ∧ (f = b ∧ (1 : Int) = e ∧ c) ∧ c)) ([a, a, a, a, a, a, a])) ([false, false, false, false, false, false, false])) (mkR (adL zf l))) (True)) ((0 : Int))) (by kernel_rfl) ?_
 simp only [zz]
 obtain ⟨n1, n2⟩ := h.hn
 have ht : trB (rg (mkR (adL zf l))) = true := (trB_ext rgm).trans h.ht
 rw [ht]
 exact ⟨fun h1 => by omega, fun _ => ⟨fun h1 => by omega, fun _ => ⟨hL, ⟨0, Nat.zero_le _, rfl, zR.symm, zR.symm⟩, fun _ _ => ⟨mk_rg _, fun h => (by cases h), fun _ => trivial⟩⟩⟩⟩
def e70 : Entry Try.prog gl := entry2 70 ⟨Try.f70, by kernel_rfl, by kernel_rfl, by kernel_rfl⟩ I64 SP (fun n l => orOk n l) true (fun n l => [.ar Q7 7 (mkR (adL zf l)), .int .i64 0]) (fun _ _ => []) (call70)
end Go.Am.Or

/- Orders: lines, and what two lines have in common. -/
namespace Go.Am.Or
open Go Go.Am Go.Proofs
/-- How many come before a node. -/
def cnt (f : RF) (i : Nat) : Nat → Nat
 | 0 => 0
 | k + 1 => if f k i = true then cnt f i k + 1 else cnt f i k
theorem cnt_le (f : RF) (i : Nat) : ∀ k, cnt f i k ≤ k
 | 0 => Nat.le_refl _
 | k + 1 => by
   have := cnt_le f i k
   rw [cnt]; split <;> omega
theorem cnt_lt {f : RF} {i : Nat} (h : f i i = false) : ∀ {k : Nat}, i < k → cnt f i k < k
 | 0, hk => absurd hk (Nat.not_lt_zero _)
 | k + 1, hk => by
   rw [cnt]
   by_cases e : i = k
   · subst e
     rw [if_neg (by rw [h]; decide)]
     have := cnt_le f i i
     omega
   · have := cnt_lt h (k := k) (by omega)
     split <;> omega
def lnL (f : RF) (n : Nat) : Nat → List Int
 | 0 => List.replicate n 0
 | i + 1 => (lnL f n i).set (cnt f i n) i
theorem lnL_len (f : RF) (n : Nat) : ∀ i, (lnL f n i).length = n
 | 0 => by simp [lnL]
 | i + 1 => by rw [lnL, List.length_set, lnL_len f n i]
def plK (n : Int) (l : List Int) (i : Nat) : Prop := ∀ j, j < i → (0 ≤ l.getD j 0 ∧ l.getD j 0 < n) ∧ ¬ l.getD j 0 ∈ l.take j
instance (n l i) : Decidable (plK n l i) := by unfold plK; infer_instance
def plB (n : Int) (l : List Int) : Bool := decide ((l.length : Int) = n ∧ plK n l l.length)
def plO (n : Nat) (l : List Int) : Nat → List Int
 | 0 => List.replicate n 0
 | i + 1 => (plO n l i).set (l.getD i 0).toNat i
def plM (n : Nat) (l : List Int) : Nat → List Bool
 | 0 => List.replicate n false
 | i + 1 => (plM n l i).set (l.getD i 0).toNat true
def plR (n : Int) (l : List Int) : List Int := if plB n l = true then plO n.toNat l l.length else []
theorem plO_len (n : Nat) (l : List Int) : ∀ i, (plO n l i).length = n
 | 0 => by simp [plO]
 | i + 1 => by rw [plO, List.length_set, plO_len n l i]
theorem plM_len (n : Nat) (l : List Int) : ∀ i, (plM n l i).length = n
 | 0 => by simp [plM]
 | i + 1 => by rw [plM, List.length_set, plM_len n l i]
theorem getD_set {α : Type} {l : List α} {i j : Nat} {v d : α} (hi : i < l.length) : (l.set i v).getD j d = if j = i then v else l.getD j d := by
 rw [List.getD_eq_getElem?_getD, List.getD_eq_getElem?_getD, List.getElem?_set]
 by_cases e : i = j
 · subst e; rw [if_pos rfl, if_pos rfl, if_pos hi]; try rfl
 · rw [if_neg e, if_neg fun h => e h.symm]
theorem plM_get {n : Nat} {l : List Int} : ∀ {i : Nat}, i ≤ l.length → plK n l i → ∀ v : Nat, v < n → ((plM n l i).getD v false = true ↔ (v : Int) ∈ l.take i)
 | 0, _, _, v, hv => by simp [plM, hv]
 | i + 1, hi, h, v, hv => by
   have ih := plM_get (l := l) (i := i) (by omega) (fun j hj => h j (by omega)) v hv
   have hk := (h i (by omega)).1
   rw [plM, getD_set (by rw [plM_len]; omega), take_getD (d := 0) (show i < l.length by omega), List.mem_append, List.mem_singleton]
   by_cases e : v = (l.getD i 0).toNat
   · rw [if_pos e]; simp only [true_iff]; right; omega
   · rw [if_neg e, ih]
     exact ⟨.inl, fun h => h.elim id fun h => absurd h (by omega)⟩
noncomputable def L78_0 : Code := lp (bodyOf Try.f78) 0
def st78 (n : Int) (l : List Int) (i : Nat) : St := ⟨(.int .i64 n :: dd 5 ++ .own 0 0 :: .own 1 0 :: dd 10 ++ .sl I64 l :: .int .i64 l.length :: .int .i64 i :: dd 26), [.sc 0 3 I64 (plO n.toNat l i), .sc 0 4 .bool (plM n.toNat l i)]⟩
def ex78 (n : Int) (l : List Int) : List (List Nat × Ex) := [([6], ⟨0, Unit, fun _ => plK n l l.length, fun _ => ⟨(dd 6 ++ .own 0 0 :: dd 40), [.sc 0 3 I64 (plO n.toNat l l.length)]⟩⟩)]
def h78 (n : Int) (l : List Int) : Hint := ⟨chk 0 [0, 6, 7, 18, 19, 20] (fun i => i ≤ l.length ∧ plK n l i) (st78 n l), (ex78 n l).map (·.2)⟩
noncomputable def R78 (n : Int) (l : List Int) : Exit → St → Prop := RetR (X []) true true [.tmp 4, .tmp 5] [.sl I64 (plR n l), .bool (plB n l)] []
structure ok78 (n : Int) (l : List Int) : Prop where
 n0 : 0 ≤ n
 n7 : n ≤ 7
 hl : l.length < 1000000000000000
theorem plB_no {n : Int} {l : List Int} {i : Nat} (hi : i < l.length) (h : ¬ ((0 ≤ l.getD i 0 ∧ l.getD i 0 < n) ∧ ¬ l.getD i 0 ∈ l.take i)) : plB n l = false := decide_eq_false fun h2 => h (h2.2 i hi)
theorem loop78 (n : Int) (l : List Int) (hn : ok78 n l) (hl : (l.length : Int) = n) : LoopOK (X []) L78_0 (h78 n l) (R78 n l) := by
 refine loop_ok (X_ok _) (H := fun _ _ => none) [0, 6, 7, 18, 19, 20] (fun i => i ≤ l.length ∧ plK n l i) (st78 n l) (fun i => l.length - i) (ex78 n l) 200 fun (i : Nat) hi => ?_
 refine of_eq (q := (fun (h : Nat) => (fun (g : List Int) => (fun (f : Int) => (fun (e : Nat) => (fun (d : List Bool) => (fun (c : Prop) => (fun (b : Int) => (fun (a : Prop) => c ∧ (f < (e : Int) → c ∧ idxPre f l.length ∧ c ∧ c ∧ c ∧ c ∧ c ∧ c ∧ (b < 0 → c ∧ c ∧ c ∧ a) ∧ (¬b < 0 → c ∧ c ∧ c ∧ c ∧ c ∧ (n ≤ b → c ∧ a) ∧ (¬n ≤ b → c ∧ c ∧ idxPre b d.length ∧ c ∧ c ∧ (d.getD b.toNat false = true → a) ∧ (d.getD b.toNat false = false → c ∧ c ∧ c ∧ c ∧ c ∧ idxPre b d.length ∧ c ∧ idxPre b g.length ∧ c ∧ inR .i64 (f + 1) ∧ c ∧ ∃ (y : Nat), ((y ≤ e ∧ plK n l y) ∧ e - y < e - i) ∧ (n = n ∧ c ∧ c ∧ l = l ∧ (e : Int) = (e : Int) ∧ f + 1 = (y : Int) ∧ c) ∧ g.set b.toNat f = plO h l y ∧ d.set b.toNat true = plM h l y ∧ c)))) ∧ (¬f < (e : Int) → ∃ (y : Unit), plK n l e ∧ (c ∧ c) ∧ g = plO h l e ∧ c)) (c ∧ c ∧ c ∧ (([] : List Int) = plR n l ∧ false = plB n l ∧ c) ∧ c)) (l.getD i (0 : Int))) (True)) (plM h l i)) (l.length)) ((i : Int))) (plO h l i)) (n.toNat)) (by kernel_rfl) ?_
 simp only [zz]
 obtain ⟨i1, i2⟩ := hi
 have h7 := hn.n7
 have h0 := hn.n0
 refine ⟨fun h1 => ?_, fun h1 => by rw [show i = l.length by omega] at i2 ⊢; exact ⟨i2, rfl⟩⟩
 have h1 : i < l.length := by omega
 have hno := plB_no (n := n) h1
 have hR : plB n l = false → [] = plR n l ∧ false = plB n l := fun h => by unfold plR; rw [h]; exact ⟨rfl, rfl⟩
 refine ⟨idx_nat h1, fun h => hR (hno fun h2 => by omega), fun h2 => ⟨fun h => hR (hno fun h2 => by omega), fun h3 => ?_⟩⟩
 have hm := plM_get (n := n.toNat) i1 (by rw [Int.toNat_of_nonneg h0]; exact i2) (l.getD i 0).toNat (by omega)
 rw [Int.toNat_of_nonneg (by omega)] at hm
 have hix : idxPre (l.getD i 0) n.toNat := by unfold idxPre; omega
 rw [plM_len, plO_len]
 refine ⟨hix, fun h => hR (hno fun h2 => h2.2 (hm.mp h)), fun h => ⟨hix, hix, in1 (by omega), i + 1, ⟨⟨by omega, fun j hj => ?_⟩, by omega⟩, by omega, rfl, rfl⟩⟩
 by_cases e : j = i
 · subst e
   exact ⟨⟨by omega, by omega⟩, fun h4 => by rw [hm.mpr h4] at h; cases h⟩
 · exact i2 j (by omega)
theorem call78 (n : Int) (l : List Int) (h : ok78 n l) : GCall Try.prog gl 78 true [.int .i64 n, .sl I64 l] [] [.sl I64 (plR n l), .bool (plB n l)] [] := by
 refine gcall_of (X := (X [])) ((X_ok _)) (f := 78) (fn := Try.f78) (c := bodyOf Try.f78) (by kernel_rfl) (by kernel_rfl) (view := true) (rvs := [.tmp 4, .tmp 5]) (by kernel_rfl) (H := (fun _ => some (h78 n l))) 150 (by kernel_rfl) ?_
 have hL := fun hl => loop78 n l h hl
 refine of_eq (q := (fun (c : Nat) => (fun (b : Int) => (fun (a : Prop) => a ∧ a ∧ a ∧ a ∧ a ∧ a ∧ (¬b = n → a ∧ a ∧ a ∧ (([] : List Int) = plR n l ∧ false = plB n l ∧ a) ∧ a) ∧ (¬¬b = n → a ∧ ((0 : Int) ≤ n ∧ n ≤ n ∧ n * (↑(nat_lit 8) : Int) ≤ 140737488355328 ∧ n ≤ 140737488355328) ∧ a ∧ a ∧ ((0 : Int) ≤ n ∧ n ≤ n ∧ n * (↑(nat_lit 1) : Int) ≤ 140737488355328 ∧ n ≤ 140737488355328) ∧ a ∧ a ∧ a ∧ a ∧ LoopOK (X []) L78_0 (h78 n l) (R78 n l) ∧ (∃ (y : Nat), (y ≤ l.length ∧ plK n l y) ∧ (n = n ∧ a ∧ a ∧ l = l ∧ b = (l.length : Int) ∧ (0 : Int) = (y : Int) ∧ a) ∧ List.replicate c (Ty.int .i64).dflt = plO c l y ∧ List.replicate c Ty.bool.dflt = plM c l y ∧ a) ∧ (∀ (y : Unit), plK n l l.length → a ∧ a ∧ a ∧ a ∧ (plO c l l.length = plR n l ∧ true = plB n l ∧ a) ∧ a) ∧ a)) (True)) ((l.length : Int))) (n.toNat)) (by kernel_rfl) ?_
 simp only [zz]
 have h7 := h.n7
 have h0 := h.n0
 refine ⟨fun h1 => ?_, fun h1 => ?_⟩
 · have : plB n l = false := decide_eq_false fun h2 => h1 h2.1
   unfold plR; rw [this]; exact ⟨rfl, rfl⟩
 · have h1 : (l.length : Int) = n := by omega
   refine ⟨⟨by omega, by omega, by omega, by omega⟩, ⟨by omega, by omega, by omega, by omega⟩, hL h1, ⟨0, ⟨Nat.zero_le _, fun j hj => absurd hj (Nat.not_lt_zero _)⟩, rfl, rfl, rfl⟩, fun _ h2 => ?_⟩
   have : plB n l = true := decide_eq_true ⟨h1, h2⟩
   unfold plR; rw [this]; exact ⟨rfl, rfl⟩
def e78 : Entry Try.prog gl := entry2 78 ⟨Try.f78, by kernel_rfl, by kernel_rfl, by kernel_rfl⟩ I64 SI (fun n l => ok78 n l) true (fun n l => [.sl I64 (plR n l), .bool (plB n l)]) (fun _ _ => []) (call78)
def pg (n : Nat) (P : RF) (a b x y : Nat) : Bool := decide (x < a ∨ x = a ∧ y < b) && (decide (x < n) && decide (y < n) && P x y)
theorem pg_step {n : Nat} {P : RF} {a b : Nat} (ha : a < n) (hb : b < n) : mkR (upd (pg n P a b) a b (P a b)) = mkR (pg n P a (b + 1)) := by
 refine mkR_ext fun x y hx hy => ?_
 unfold upd pg
 by_cases e : x = a ∧ y = b
 · obtain ⟨rfl, rfl⟩ := e
   rw [if_pos ⟨rfl, rfl⟩, show decide (x < x ∨ x = x ∧ y < y + 1) = true from decide_eq_true (by omega), decide_eq_true ha, decide_eq_true hb]; try rfl
 · rw [if_neg e]
   congr 1
   exact decide_eq_decide.mpr (by omega)
theorem pg_row {n : Nat} {P : RF} {a : Nat} : mkR (pg n P a n) = mkR (pg n P (a + 1) 0) := mkR_ext fun x y _ _ => by
 unfold pg
 by_cases e : y < n
 · congr 1
   exact decide_eq_decide.mpr (by omega)
 · rw [decide_eq_false e]; simp
theorem pg_zero {n : Nat} {P : RF} : mkR (pg n P 0 0) = mkR zf := mkR_ext fun x y _ _ => by simp [pg, zf]
def inn (n : Nat) (P : RF) (x y : Nat) : Bool := decide (x < n) && decide (y < n) && P x y
theorem pg_all {n : Nat} {P : RF} : mkR (pg n P n 0) = mkR (inn n P) := mkR_ext fun x y _ _ => by
 unfold pg inn
 by_cases e : x < n
 · rw [decide_eq_true (.inl e)]; try rfl
 · rw [decide_eq_false e]; simp
def lo (p : List Int) (a b : Nat) : Bool := decide (p.getD a 0 < p.getD b 0)
def bo (p q : List Int) (a b : Nat) : Bool := lo p a b && lo q a b
noncomputable def L60_0 : Code := lp (bodyOf Try.f60) 0
noncomputable def L60_2 : Code := lp (bodyOf Try.f60) 2
def sa60 (n : Nat) (p q : List Int) (a : Nat) : St := ⟨(.int .i64 n :: dd 3 ++ .ptr 0 0 [] :: .dead :: .ptr 1 0 [] :: .sl I64 p :: .dead :: .sl I64 q :: dd 31 ++ .int .i64 n :: .int .i64 a :: dd 33), [Z7, relO (pg n (bo p q) a 0)]⟩
def xa60 (n : Nat) (p q : List Int) : List (List Nat × Ex) := [([4, 6], ⟨0, Unit, fun _ => True, fun _ => ⟨(dd 4 ++ .ptr 0 0 [] :: .dead :: .ptr 1 0 [] :: dd 69), [Z7, relO (inn n (bo p q))]⟩⟩)]
def ha60 (n : Nat) (p q : List Int) : Hint := ⟨chk 0 [0, 4, 6, 7, 9, 41, 42] (fun i => i ≤ n) (sa60 n p q), (xa60 n p q).map (·.2)⟩
def sb60 (n : Nat) (p q : List Int) (a b : Nat) : St := ⟨(.int .i64 n :: dd 3 ++ .ptr 0 0 [] :: .dead :: .ptr 1 0 [] :: .sl I64 p :: .dead :: .sl I64 q :: .dead :: .int .i64 a :: dd 29 ++ .int .i64 n :: .int .i64 a :: dd 2 ++ .int .i64 n :: .int .i64 b :: dd 29), [Z7, relO (pg n (bo p q) a b)]⟩
def xb60 (n : Nat) (p q : List Int) (a : Nat) : List (List Nat × Ex) := [([0, 4, 6, 7, 9, 41, 42], ⟨2, Unit, fun _ => True, fun _ => ⟨(.int .i64 n :: dd 3 ++ .ptr 0 0 [] :: .dead :: .ptr 1 0 [] :: .sl I64 p :: .dead :: .sl I64 q :: dd 31 ++ .int .i64 n :: .int .i64 a :: dd 33), [Z7, relO (pg n (bo p q) a n)]⟩⟩)]
def hb60 (n : Nat) (p q : List Int) (a : Nat) : Hint := ⟨chk 0 [0, 4, 6, 7, 9, 11, 41, 42, 45, 46] (fun i => i ≤ n) (sb60 n p q a), (xb60 n p q a).map (·.2)⟩
theorem loop60b (n : Nat) (hn : n ≤ 7) (p q : List Int) (hp : p.length = n ∧ q.length = n) (a : Nat) (ha : a < n) (R : Exit → St → Prop) : LoopOK (X [e78]) L60_2 (hb60 n p q a) R := by
 refine loop_ok (X_ok _) (H := fun _ _ => none) [0, 4, 6, 7, 9, 11, 41, 42, 45, 46] (fun k => k ≤ n) (sb60 n p q a) (fun k => n - k) (xb60 n p q a) 200 fun (b : Nat) hb => ?_
 refine of_eq (q := (fun (k : Int) => (fun (h : Int) => (fun (j : Int) => (fun (g : Prop) => (fun (f : Int) => (fun (e : Rl) => (fun (i : List Bool) => (fun (d : Int) => (fun (l : Prop) => (fun (c : Rl) => g ∧ (h < d → g ∧ g ∧ g ∧ g ∧ g ∧ g ∧ idxPre f p.length ∧ g ∧ g ∧ g ∧ idxPre h p.length ∧ g ∧ g ∧ g ∧ (p.getD a k < p.getD b k → g ∧ g ∧ idxPre f q.length ∧ g ∧ g ∧ g ∧ idxPre h q.length ∧ g ∧ g ∧ g ∧ idxPre f (7 : Nat) ∧ idxPre h (7 : Nat) ∧ g ∧ inR .i64 j ∧ g ∧ ∃ (y : Nat), (y ≤ n ∧ n - y < n - b) ∧ (l ∧ g ∧ g ∧ p = p ∧ q = q ∧ f = f ∧ l ∧ f = f ∧ l ∧ j = (y : Int) ∧ g) ∧ c = c ∧ List.set e a (i.set b (decide (q.getD a k < q.getD b k))) = mkR (pg n (bo p q) a y) ∧ g) ∧ (¬p.getD a k < p.getD b k → g ∧ idxPre f (7 : Nat) ∧ idxPre h (7 : Nat) ∧ g ∧ inR .i64 j ∧ g ∧ ∃ (y : Nat), (y ≤ n ∧ n - y < n - b) ∧ (l ∧ g ∧ g ∧ p = p ∧ q = q ∧ f = f ∧ l ∧ f = f ∧ l ∧ j = (y : Int) ∧ g) ∧ c = c ∧ List.set e a (i.set b false) = mkR (pg n (bo p q) a y) ∧ g)) ∧ (¬h < d → ∃ (y : Unit), g ∧ (l ∧ g ∧ g ∧ p = p ∧ q = q ∧ l ∧ f = f ∧ g) ∧ c = c ∧ e = mkR (pg n (bo p q) a n) ∧ g)) (mkR fun (x x_1 : Nat) => false)) (d = d)) ((n : Int))) (List.getD e a [false, false, false, false, false, false, false])) (mkR (pg n (bo p q) a b))) ((a : Int))) (True)) (h + 1)) ((b : Int))) ((0 : Int))) (by kernel_rfl) ?_
 simp only [zz]
 refine ⟨fun h1 => ?_, fun h1 => by rw [show b = n by omega]⟩
 have h1 : b < n := by omega
 have hst := pg_step (P := bo p q) ha h1
 rw [mkR_set (by omega), mkR_set (by omega)]
 have e1 : ∀ l : List Int, l.length = n → idxPre (a : Int) l.length ∧ idxPre (b : Int) l.length := fun l hl => by rw [hl]; unfold idxPre; omega
 have nx : ∀ v, v = bo p q a b → idxPre (a : Int) 7 ∧ idxPre (b : Int) 7 ∧ inR .i64 ((b : Int) + 1) ∧ ∃ y : Nat, (y ≤ n ∧ n - y < n - b) ∧ (b : Int) + 1 = (y : Int) ∧ mkR (upd (pg n (bo p q) a b) a b v) = mkR (pg n (bo p q) a y) := fun v hv => by
   rw [hv, hst]
   exact ⟨i7 (by omega), i7 (by omega), in1 (by omega), b + 1, ⟨by omega, by omega⟩, by omega, rfl⟩
 refine ⟨(e1 p hp.1).1, (e1 p hp.1).2, fun h => ⟨(e1 q hp.2).1, (e1 q hp.2).2, nx _ ?_⟩, fun h => nx _ ?_⟩
 · unfold bo lo; rw [decide_eq_true h]; try rfl
 · unfold bo lo; rw [decide_eq_false h]; try rfl
theorem loop60a (n : Nat) (hn : n ≤ 7) (p q : List Int) (hp : p.length = n ∧ q.length = n) (R : Exit → St → Prop) : LoopOK (X [e78]) L60_0 (ha60 n p q) R := by
 refine loop_ok (X_ok _) (H := fun a _ => some (hb60 n p q a)) [0, 4, 6, 7, 9, 41, 42] (fun k => k ≤ n) (sa60 n p q) (fun k => n - k) (xa60 n p q) 200 fun (a : Nat) ha => ?_
 have hL := fun h R => loop60b n hn p q hp a h R
 refine of_eq (q := (fun (f : Rl) => (fun (e : Prop) => (fun (d : Int) => (fun (c : Int) => (fun (b : Rl) => e ∧ (d < c → e ∧ e ∧ e ∧ e ∧ LoopOK (X [e78]) L60_2 (hb60 n p q a) (bodyR (X [e78]).m0 (xa60 n p q) R) ∧ (∃ (y : Nat), y ≤ n ∧ (c = c ∧ e ∧ e ∧ p = p ∧ q = q ∧ d = d ∧ c = c ∧ d = d ∧ c = c ∧ (0 : Int) = (y : Int) ∧ e) ∧ b = b ∧ f = mkR (pg n (bo p q) a y) ∧ e) ∧ (∀ (y : Unit), e → inR .i64 (d + 1) ∧ e ∧ ∃ (y : Nat), (y ≤ n ∧ n - y < n - a) ∧ (c = c ∧ e ∧ e ∧ p = p ∧ q = q ∧ c = c ∧ d + 1 = (y : Int) ∧ e) ∧ b = b ∧ mkR (pg n (bo p q) a n) = mkR (pg n (bo p q) y (0 : Nat)) ∧ e) ∧ e) ∧ (¬d < c → ∃ (y : Unit), e ∧ (e ∧ e ∧ e) ∧ b = b ∧ f = mkR (inn n (bo p q)) ∧ e)) (mkR fun (x x_1 : Nat) => false)) ((n : Int))) ((a : Int))) (True)) (mkR (pg n (bo p q) a (0 : Nat)))) (by kernel_rfl) ?_
 simp only [zz]
 exact ⟨fun h1 => ⟨hL (by omega) _, ⟨0, Nat.zero_le _, rfl, rfl⟩, fun _ _ => ⟨in1 (by omega), a + 1, ⟨by omega, by omega⟩, by omega, pg_row⟩⟩, fun h1 => by rw [show a = n by omega]; exact pg_all⟩
def cmB (n : Int) (p q : List Int) : Bool := decide (1 ≤ n ∧ n ≤ 7) && (plB n p && plB n q)
def cmR (n : Int) (p q : List Int) : RF := if cmB n p q = true then inn n.toNat (bo (plR n p) (plR n q)) else zf
def cmE (n : Int) (p q : List Int) : Int := if cmB n p q = true then 0 else 1
structure ok60 (n : Int) (l : List Int × List Int) : Prop where
 h1 : l.1.length < 1000000000000000
 h2 : l.2.length < 1000000000000000
theorem call60 (n : Int) (l : List Int × List Int) (h : ok60 n l) : GCall Try.prog gl 60 true [.int .i64 n, .ar SI 2 [l.1, l.2]] [] [.ar Q7 7 (mkR (cmR n l.1 l.2)), .int .i64 (cmE n l.1 l.2)] [] := by
 refine gcall_of (X := (X [e78])) ((X_ok _)) (f := 60) (fn := Try.f60) (c := bodyOf Try.f60) (by kernel_rfl) (by kernel_rfl) (view := false) (rvs := [.cell 4 71, .tmp 5]) (by kernel_rfl) (H := (fun _ => some (ha60 n.toNat (plR n l.1) (plR n l.2)))) 150 (by kernel_rfl) ?_
 have hL := fun h1 h2 R => loop60a n.toNat h1 (plR n l.1) (plR n l.2) h2 R
 refine of_eq (q := (fun (h : Nat) => (fun (g : Int) => (fun (f : Rl) => (fun (e : List Int) => (fun (d : List Int) => (fun (c : Prop) => (fun (a : List Bool) => (fun (i : List (List Bool)) => (fun (b : Prop) => c ∧ c ∧ c ∧ c ∧ c ∧ c ∧ c ∧ (n < 1 → c ∧ b) ∧ (¬n < 1 → c ∧ c ∧ c ∧ ((7 : Int) < n → b) ∧ (¬(7 : Int) < n → c ∧ idxPre (0 : Int) (2 : Nat) ∧ c ∧ (ok78 n l.fst ∧ c) ∧ c ∧ c ∧ c ∧ c ∧ c ∧ c ∧ idxPre (1 : Int) (2 : Nat) ∧ c ∧ (ok78 n l.snd ∧ c) ∧ c ∧ c ∧ c ∧ c ∧ c ∧ c ∧ c ∧ c ∧ ((!plB n l.fst) = true → c ∧ b) ∧ ((!plB n l.fst) = false → c ∧ c ∧ c ∧ ((!plB n l.snd) = true → b) ∧ ((!plB n l.snd) = false → c ∧ c ∧ LoopOK (X [e78]) L60_0 (ha60 h d e) (RetR (X [e78]) true false [ResultVar.cell (4 : Tmp) (71 : TypeId), ResultVar.tmp (5 : Tmp)] [AV.ar Q7 (7 : Nat) f, AV.int .i64 g] []) ∧ (∃ (y : Nat), y ≤ h ∧ (n = (h : Int) ∧ c ∧ c ∧ d = d ∧ e = e ∧ n = (h : Int) ∧ (0 : Int) = (y : Int) ∧ c) ∧ (i = mkR fun (x x_1 : Nat) => false) ∧ i = mkR (pg h (bo d e) y (0 : Nat)) ∧ c) ∧ (∀ (y : Unit), c → c ∧ c ∧ c ∧ (c ∧ c) ∧ (mkR (inn h (bo d e)) = f ∧ (0 : Int) = g ∧ c) ∧ c) ∧ c))))) (c ∧ c ∧ c ∧ (c ∧ c) ∧ (i = f ∧ (1 : Int) = g ∧ c) ∧ c)) ([a, a, a, a, a, a, a])) ([false, false, false, false, false, false, false])) (True)) (plR n l.fst)) (plR n l.snd)) (mkR (cmR n l.fst l.snd))) (cmE n l.fst l.snd)) (n.toNat)) (by kernel_rfl) ?_
 simp only [zz]
 have hno : cmB n l.1 l.2 = false → [w7, w7, w7, w7, w7, w7, w7] = mkR (cmR n l.1 l.2) ∧ 1 = cmE n l.1 l.2 := fun h => by unfold cmR cmE; rw [h]; exact ⟨zR.symm, rfl⟩
 refine ⟨fun h1 => hno ?_, fun h1 => ⟨fun h2 => hno ?_, fun h2 => ⟨i02, ⟨by omega, by omega, h.h1⟩, i12, ⟨by omega, by omega, h.h2⟩, fun h3 => hno ?_, fun h3 => ⟨fun h4 => hno ?_, fun h4 => ?_⟩⟩⟩⟩
 · unfold cmB; rw [decide_eq_false (by omega)]; try rfl
 · unfold cmB; rw [decide_eq_false (by omega)]; try rfl
 · unfold cmB; rw [show plB n l.1 = false by simpa using h3]; simp
 · unfold cmB; rw [show plB n l.2 = false by simpa using h4]; simp
 · have h3 : plB n l.1 = true := by simpa using h3
   have h4 : plB n l.2 = true := by simpa using h4
   have hB : cmB n l.1 l.2 = true := by unfold cmB; rw [h3, h4, decide_eq_true (by omega)]; try rfl
   have e : ∀ m : List Int, plB n m = true → (plR n m).length = n.toNat := fun m hm => by unfold plR; rw [if_pos hm, plO_len]
   unfold cmR cmE
   rw [hB]
   exact ⟨hL (by omega) ⟨e _ h3, e _ h4⟩ _, ⟨0, Nat.zero_le _, ⟨by omega, by omega, rfl⟩, rfl, zR.symm.trans pg_zero.symm⟩, fun _ _ => ⟨rfl, rfl⟩⟩
def e60 : Entry Try.prog gl := entry2 60 ⟨Try.f60, by kernel_rfl, by kernel_rfl, by kernel_rfl⟩ I64 (.a2 SI) (fun n l => ok60 n l) true (fun n l => [.ar Q7 7 (mkR (cmR n (l : List Int × List Int).1 l.2)), .int .i64 (cmE n (l : List Int × List Int).1 l.2)]) (fun _ _ => []) call60
end Go.Am.Or

/- Orders: Draw, Drawn, Common, Realize. -/
namespace Go.Am.Or
open Go Go.Am Go.Proofs
theorem mk_jo (f g : RF) : mkR (jo (rg (mkR f)) (rg (mkR g))) = mkR (jo f g) := mkR_ext fun x y hx hy => by unfold jo; rw [rg_mk hx hy, rg_mk hx hy]
theorem mk_sw (f : RF) : mkR (sw (rg (mkR f))) = mkR (sw f) := mkR_ext fun x y hx hy => by unfold sw; rw [rg_mk hy hx]
theorem mk_ot (n : Nat) (f : RF) : mkR (otR n (rg (mkR f))) = mkR (otR n f) := mkR_ext fun x y hx hy => otR_ext rgm x y hx hy
theorem trB_irr {f : RF} (h : trB f = true) {i : Nat} (hi : i < 7) : f i i = false := by
 have h := of_decide_eq_true h
 cases hf : f i i with
 | false => rfl
 | true => exact ((h i hi i hi hf).1.symm.trans hf).symm.symm.trans rfl |> fun e => by cases e
theorem two_ok (f g : RF) : ([mkR f, mkR g] : List Rl).length = 2 ∧ ∀ r : Rl, r ∈ [mkR f, mkR g] → r = mkR (rg r) := ⟨rfl, fun r hr => by
 simp only [List.mem_cons, List.not_mem_nil, or_false] at hr
 rcases hr with rfl | rfl
 · exact mk_rg f
 · exact mk_rg g⟩
theorem trB_sw {f : RF} (h : trB f = true) : trB (sw f) = true := by
 have h := of_decide_eq_true h
 refine decide_eq_true fun a ha b hb hab => ?_
 obtain ⟨h1, h2⟩ := h b hb a ha hab
 refine ⟨h1, fun c hc hbc => ?_⟩
 exact (h c hc b hb hbc).2 a ha hab
/-- The lines of two relations that are joined. -/
def ln2 (n : Nat) (s r : RF) : List Int := lnL (jo s r) n n
def drB (n : Nat) (l : LP) : Bool := (orR n (eg l)).2 && (orR n (otR n (eg l))).2
def drL (n : Nat) (l : LP) : List Int × List Int := if drB n l = true then (ln2 n (orR n (otR n (eg l))).1 (orR n (eg l)).1, ln2 n (orR n (otR n (eg l))).1 (sw (orR n (eg l)).1)) else ([], [])
/-- The edges of a relation, whatever their direction. -/
def both (f : RF) : RF := jo f (sw f)
def dnL (n : Int) (l : List Int × List Int) : LP := if cmB n l.1 l.2 = true then L46 n.toNat (otR n.toNat (both (cmR n l.1 l.2))) else []
def cnL (n : Int) (l : List Int × List Int) : LP := prK (cmR n l.1 l.2) 7 49
theorem cmE_zero {n : Int} {p q : List Int} (h : cmE n p q = 0) : cmB n p q = true ∧ 1 ≤ n ∧ n ≤ 7 := by
 unfold cmE at h
 split at h
 · rename_i hb
   refine ⟨hb, ?_⟩
   unfold cmB at hb
   rw [Bool.and_eq_true] at hb
   exact of_decide_eq_true hb.1
 · cases h
theorem cmE_one {n : Int} {p q : List Int} (h : ¬ cmE n p q = 0) : cmB n p q = false := by
 unfold cmE at h
 split at h
 · exact absurd rfl h
 · rename_i hb; simpa using hb
theorem call20 (n : Int) (l : List Int × List Int) (h : ok60 n l) : GCall Try.prog gl 20 false [.int .i64 n, .ar SI 2 [l.1, l.2]] [] [.sl P2 (dnL n l), .int .i64 (cmE n l.1 l.2)] [] := by
 refine gcall_of (X := (Xv [e60, e56, e54, e53, e46] (drOf [(4, 7)]) [22])) ((Xv_ok _ _ _)) (f := 20) (fn := Try.f20) (c := bodyOf Try.f20) (by kernel_rfl) (by kernel_rfl) (view := true) (rvs := [.tmp 4, .tmp 5]) (by kernel_rfl) (H := fun _ => none) 150 (by kernel_rfl) ?_
 refine of_eq (q := (fun (g : Int) => (fun (e : Int) => (fun (d : Prop) => (fun (b : Rl) => (fun (f : Rl) => (fun (a : Rl) => (fun (c : Rl) => d ∧ d ∧ d ∧ d ∧ d ∧ (ok60 n (l.fst, l.snd) ∧ d) ∧ d ∧ d ∧ d ∧ d ∧ d ∧ d ∧ d ∧ d ∧ (¬e = 0 → d ∧ d ∧ d ∧ d ∧ (([] : List (Int × Int)) = dnL n l ∧ e = e ∧ d) ∧ d) ∧ (¬¬e = 0 → d ∧ d ∧ d ∧ b = mkR (rg b) ∧ d ∧ ([b, f].length = 2 ∧ ∀ (r : R7.D), r ∈ [b, f] → r = mkR (rg r)) ∧ d ∧ d ∧ d ∧ d ∧ ((okG (n, a) ∧ (d ∧ d) ∧ (n = n ∧ a = a ∧ d) ∧ d) ∧ d ∧ d) ∧ ((okG (g, c) ∧ (d ∧ d) ∧ (g = g ∧ c = c ∧ d) ∧ d) ∧ d ∧ d) ∧ d ∧ d ∧ d ∧ (L46 n.toNat (rg c) = dnL n l ∧ (0 : Int) = e ∧ d) ∧ d)) (mkR (otR n.toNat (rg a)))) (mkR (jo (rg b) (rg f)))) (mkR (sw (rg b)))) (mkR (cmR n l.fst l.snd))) (True)) (cmE n l.fst l.snd)) ((n.toNat : Int))) (by kernel_rfl) ?_
 simp only [zz]
 refine ⟨⟨h.h1, h.h2⟩, fun h1 => by unfold dnL; rw [cmE_one h1]; rfl, fun h1 => ?_⟩
 have h1 : cmE n l.1 l.2 = 0 := by simpa using h1
 obtain ⟨hb, n1, n2⟩ := cmE_zero h1
 rw [mk_sw, mk_jo, mk_ot, L46_ext (rgm (f := otR n.toNat _))]
 unfold dnL both
 rw [hb, h1]
 exact ⟨mk_rg _, two_ok _ _, ⟨mk_rg _, n1, n2⟩, okG_mk (by omega) (by omega) _, rfl, rfl⟩
theorem prK_none {w : Nat} : ∀ q, prK zf w q = []
 | 0 => rfl
 | q + 1 => by rw [prK, if_neg (by simp [zf]), prK_none q]
theorem call21 (n : Int) (l : List Int × List Int) (h : ok60 n l) : GCall Try.prog gl 21 false [.int .i64 n, .ar SI 2 [l.1, l.2]] [] [.sl P2 (cnL n l), .int .i64 (cmE n l.1 l.2)] [] := by
 refine gcall_of (X := (X [e60, e61])) ((X_ok _)) (f := 21) (fn := Try.f21) (c := bodyOf Try.f21) (by kernel_rfl) (by kernel_rfl) (view := true) (rvs := [.tmp 4, .tmp 5]) (by kernel_rfl) (H := fun _ => none) 150 (by kernel_rfl) ?_
 refine of_eq (q := (fun (c : Rl) => (fun (b : Prop) => (fun (a : Int) => b ∧ b ∧ b ∧ b ∧ b ∧ (ok60 n (l.fst, l.snd) ∧ b) ∧ b ∧ b ∧ b ∧ b ∧ b ∧ b ∧ b ∧ b ∧ (¬a = 0 → b ∧ b ∧ b ∧ b ∧ (([] : List (Int × Int)) = cnL n l ∧ a = a ∧ b) ∧ b) ∧ (¬¬a = 0 → b ∧ (c = mkR (rg c) ∧ b) ∧ b ∧ b ∧ b ∧ (prK (rg c) (7 : Nat) (49 : Nat) = cnL n l ∧ (0 : Int) = a ∧ b) ∧ b)) (cmE n l.fst l.snd)) (True)) (mkR (cmR n l.fst l.snd))) (by kernel_rfl) ?_
 simp only [zz]
 refine ⟨⟨h.h1, h.h2⟩, fun h1 => ?_, fun h1 => ?_⟩
 · unfold cnL cmR
   rw [cmE_one h1]
   exact (prK_none 49).symm
 · have h1 : cmE n l.1 l.2 = 0 := by simpa using h1
   exact ⟨mk_rg _, prK_rg _, h1.symm⟩
def rzB (n : Nat) (l : LP) : Bool := (orR n (otR n (both (adL zf l)))).2
end Go.Am.Or

/- Orders: layers and chains. -/
namespace Go.Am.Or
open Go Go.Am Go.Proofs
/-- The best of the first columns. -/
def lyM (f : RF) (g : Nat → Nat) (i : Nat) : Nat → Nat
 | 0 => 0
 | k + 1 => if f k i = true then max (lyM f g i k) (g k + 1) else lyM f g i k
def lay (f : RF) (n : Nat) : Nat → Nat → Nat
 | 0, _ => 0
 | d + 1, i => lyM f (lay f n d) i n
theorem lyM_le {f : RF} {g : Nat → Nat} {i b : Nat} : ∀ {k : Nat}, (∀ j, j < k → f j i = true → g j + 1 ≤ b) → lyM f g i k ≤ b
 | 0, _ => Nat.zero_le _
 | k + 1, h => by
   have ih := lyM_le (k := k) fun j hj => h j (by omega)
   rw [lyM]
   split
   · rename_i hk
     have := h k (by omega) hk
     omega
   · exact ih
theorem lay_le (f : RF) (n : Nat) : ∀ d i, lay f n d i ≤ d
 | 0, i => Nat.le_refl _
 | d + 1, i => lyM_le fun j _ _ => by have := lay_le f n d j; omega
def gL (n : Nat) (f : RF) : List Ob := [.bx (.int .i64 n), relO f, .bx (.clo 80 [] [.ptr 0 0 [], .ptr 1 0 [], .ptr 2 0 []])]
def aL (i : Int) : List AV := [.int .i64 i, .ptr 0 0 [], .ptr 1 0 [], .ptr 2 0 []]
structure okLy (n : Nat) (f : RF) (d i : Nat) : Prop where
 hn : n ≤ 7
 hi : i < n
 hd : cnt f i n < d
 h8 : d < 100
def LS (n : Nat) (f : RF) (d : Nat) : Prop := ∀ i, okLy n f d i → GCall Try.prog gl 80 true (aL i) (gL n f) [.int .i64 (lay f n d i)] (gL n f)
def get80 (xs : List AV) (_ : List Ob) : Option Int :=
 match xs with
 | .int .i64 i :: _ => some i
 | _ => none
noncomputable def e80 (n : Nat) (f : RF) (d : Nat) (h : LS n f d) : Entry Try.prog gl := entryW 80 ⟨Try.f80, by kernel_rfl, by kernel_rfl, by kernel_rfl⟩ true get80 (fun i => 0 ≤ i ∧ okLy n f d i.toNat) true aL (fun _ => gL n f) (fun i => [.int .i64 (lay f n d i.toNat)]) (fun _ => gL n f) (fun i hi => by
 have := h i.toNat hi.2
 rwa [Int.toNat_of_nonneg hi.1] at this)
noncomputable def L80_0 : Code := lp (bodyOf Try.f80) 0
noncomputable abbrev X80 (n : Nat) (f : RF) (d : Nat) (h : LS n f d) : Cy := Xm [e80 n f d h] 3 (fun _ => none)
def st80 (n : Nat) (f : RF) (g : Nat → Nat) (i k : Nat) : St := ⟨(.int .i64 i :: .dead :: .ptr 1 0 [] :: .ptr 2 0 [] :: dd 2 ++ .int .i64 (lyM f g i k) :: .dead :: .int .i64 n :: .int .i64 k :: dd 15), gL n f⟩
def ex80 (n : Nat) (f : RF) (g : Nat → Nat) (i : Nat) : List (List Nat × Ex) := [([6], ⟨0, Unit, fun _ => True, fun _ => ⟨(dd 6 ++ .int .i64 (lyM f g i n) :: dd 18), gL n f⟩⟩)]
def h80 (n : Nat) (f : RF) (g : Nat → Nat) (i : Nat) : Hint := ⟨chk 3 [0, 2, 3, 6, 8, 9] (fun k => k ≤ n) (st80 n f g i), (ex80 n f g i).map (·.2)⟩
theorem loop80 (n : Nat) (f : RF) (d : Nat) (h : LS n f d) (i : Nat) (ho : okLy n f (d + 1) i) (hc : ∀ k, k < n → f k i = true → cnt f k n < cnt f i n) (R : Exit → St → Prop) : LoopOK (X80 n f d h) L80_0 (h80 n f (lay f n d) i) R := by
 refine loop_ok (Xm_ok _ _ _) (H := fun _ _ => none) [0, 2, 3, 6, 8, 9] (fun k => k ≤ n) (st80 n f (lay f n d) i) (fun k => n - k) (ex80 n f (lay f n d) i) 200 fun (k : Nat) hk => ?_
 refine of_eq (q := (fun (l : Int) => (fun (j : Int) => (fun (h : Int) => (fun (g : Prop) => (fun (o : Prop) => (fun (e : Int) => (fun (c : Int) => (fun (m : Int) => (fun (b : Bool) => (fun (a : Prop) => g ∧ (c < h → g ∧ g ∧ g ∧ g ∧ idxPre c (7 : Nat) ∧ idxPre j (7 : Nat) ∧ g ∧ (b = true → g ∧ g ∧ g ∧ ((((0 : Int) ≤ c ∧ okLy n f d k) ∧ (c = c ∧ o) ∧ a) ∧ o) ∧ inR .i64 l ∧ g ∧ g ∧ inR .i64 m ∧ g ∧ ∃ (y : Nat), (y ≤ n ∧ n - y < n - k) ∧ (j = j ∧ g ∧ g ∧ maxI e l = (↑(lyM f (lay f n d) i y) : Int) ∧ h = h ∧ m = (y : Int) ∧ g) ∧ a) ∧ (b = false → inR .i64 m ∧ g ∧ ∃ (y : Nat), (y ≤ n ∧ n - y < n - k) ∧ (j = j ∧ g ∧ g ∧ e = (↑(lyM f (lay f n d) i y) : Int) ∧ h = h ∧ m = (y : Int) ∧ g) ∧ a)) ∧ (¬c < h → ∃ (y : Unit), g ∧ (e = (↑(lyM f (lay f n d) i n) : Int) ∧ g) ∧ a)) (h = h ∧ mkR f = mkR f ∧ (g ∧ o) ∧ g)) (List.getD (List.getD (mkR f) k [false, false, false, false, false, false, false]) i false)) (c + 1)) ((k : Int))) ((↑(lyM f (lay f n d) i k) : Int))) (g ∧ g ∧ g ∧ g)) (True)) ((n : Int))) ((i : Int))) ((↑(lay f n d k) : Int) + 1)) (by kernel_rfl) ?_
 simp only [zz]
 have hn := ho.hn
 have hi := ho.hi
 have hd := ho.hd
 have h8 := ho.h8
 refine ⟨fun h1 => ?_, fun h1 => by rw [show k = n by omega]⟩
 have h1 : k < n := by omega
 have hl := lay_le f n d k
 have hm := lyM_le (f := f) (g := lay f n d) (i := i) (b := d + 1) (k := k) fun j _ _ => by have := lay_le f n d j; omega
 rw [rel_get f (by omega) (by omega)]
 refine ⟨i7 (by omega), i7 (by omega), fun h2 => ⟨⟨by omega, ⟨hn, h1, by have := hc k h1 h2; omega, by omega⟩⟩, in1 (by omega), in1 (by omega), k + 1, ⟨by omega, by omega⟩, ?_, by omega⟩, fun h2 => ⟨in1 (by omega), k + 1, ⟨by omega, by omega⟩, by rw [lyM, if_neg (by rw [h2]; decide)], by omega⟩⟩
 rw [lyM, if_pos h2]
 unfold maxI
 split <;> omega
theorem call80 (n : Nat) (f : RF) (d : Nat) (h : LS n f d) (i : Nat) (ho : okLy n f (d + 1) i) (hc : ∀ k, k < n → f k i = true → cnt f k n < cnt f i n) : GCall Try.prog gl 80 true (aL i) (gL n f) [.int .i64 (lay f n (d + 1) i)] (gL n f) := by
 refine gcall_of (X := (X80 n f d h)) ((Xm_ok _ _ _)) (f := 80) (fn := Try.f80) (c := bodyOf Try.f80) (by kernel_rfl) (by kernel_rfl) (view := false) (rvs := [.tmp 5]) (by kernel_rfl) (H := (fun _ => some (h80 n f (lay f n d) i))) 150 (by kernel_rfl) ?_
 have hL := fun R => loop80 n f d h i ho hc R
 refine of_eq (q := (fun (c : Int) => (fun (b : Prop) => (fun (a : Prop) => b ∧ b ∧ b ∧ b ∧ LoopOK (X80 n f d h) L80_0 (h80 n f (lay f n d) i) (RetR (X80 n f d h) true false [ResultVar.tmp (5 : Tmp)] [AV.int .i64 c] (gL n f)) ∧ (∃ (y : Nat), y ≤ n ∧ ((i : Int) = (i : Int) ∧ b ∧ b ∧ (0 : Int) = (↑(lyM f (lay f n d) i y) : Int) ∧ (n : Int) = (n : Int) ∧ (0 : Int) = (y : Int) ∧ b) ∧ a) ∧ (∀ (y : Unit), b → b ∧ b ∧ b ∧ ((↑(lyM f (lay f n d) i n) : Int) = c ∧ b) ∧ a) ∧ b) ((n : Int) = (n : Int) ∧ mkR f = mkR f ∧ (b ∧ b ∧ b ∧ b ∧ b) ∧ b)) (True)) ((↑(lay f n (d + 1) i) : Int))) (by kernel_rfl) ?_
 simp only [zz]
 exact ⟨hL _, ⟨0, Nat.zero_le _, rfl, rfl⟩, fun _ _ => rfl⟩
theorem cnt_mono {f : RF} {k i : Nat} (h : ∀ j, f j k = true → j < 7 → f j i = true) : ∀ {m : Nat}, m ≤ 7 → cnt f k m ≤ cnt f i m
 | 0, _ => Nat.le_refl _
 | m + 1, hm => by
   have ih := cnt_mono h (m := m) (by omega)
   rw [cnt, cnt]
   by_cases h1 : f m k = true
   · rw [if_pos h1, if_pos (h m h1 (by omega))]; omega
   · rw [if_neg h1]; split <;> omega
theorem cnt_less {f : RF} (ht : trB f = true) {k i n : Nat} (hn : n ≤ 7) (hk : k < n) (hi : i < n) (h : f k i = true) : cnt f k n < cnt f i n := by
 have h0 := of_decide_eq_true ht
 have htr : ∀ j, f j k = true → j < 7 → f j i = true := fun j hj hj7 => (h0 j hj7 k (by omega) hj).2 i (by omega) h
 have hkk := trB_irr ht (i := k) (by omega)
 have key : ∀ m, m ≤ 7 → k < m → cnt f k m < cnt f i m := fun m => by
   induction m with
   | zero => intro _ h; exact absurd h (Nat.not_lt_zero _)
   | succ m ih =>
     intro hm hkm
     rw [cnt, cnt]
     by_cases e : k = m
     · subst e
       rw [if_neg (by rw [hkk]; decide), if_pos h]
       have := cnt_mono htr (m := k) (by omega)
       omega
     · have := ih (by omega) (by omega)
       by_cases h1 : f m k = true
       · rw [if_pos h1, if_pos (htr m h1 (by omega))]; omega
       · rw [if_neg h1]; split <;> omega
 exact key n hn hk
theorem LS_all {n : Nat} {f : RF} (ht : trB f = true) : ∀ d, LS n f d
 | 0 => fun i h => absurd h.hd (Nat.not_lt_zero _)
 | d + 1 => fun i h => call80 n f d (LS_all ht d) i h fun k hk hki => cnt_less ht h.hn hk h.hi hki
/-- The layers. -/
def lyS (f : RF) (n : Nat) : Nat → List Int
 | 0 => List.replicate n 0
 | i + 1 => (lyS f n i).set i (lay f n 7 i)
theorem lyS_len (f : RF) (n : Nat) : ∀ i, (lyS f n i).length = n
 | 0 => by simp [lyS]
 | i + 1 => by rw [lyS, List.length_set, lyS_len f n i]
noncomputable def L71_0 : Code := lp (bodyOf Try.f71) 0
def st71 (n : Nat) (f : RF) (i : Nat) : St := ⟨(dd 5 ++ .own 0 0 :: .ptr 1 0 [] :: dd 4 ++ .int .i64 n :: .int .i64 i :: dd 10), [.sc 0 3 I64 (lyS f n i), .bx (.clo 80 [] [.ptr 2 0 [], .ptr 3 0 [], .ptr 1 0 []]), .bx (.int .i64 n), relO f]⟩
def ex71 (n : Nat) (f : RF) : List (List Nat × Ex) := [([5], ⟨0, Unit, fun _ => True, fun _ => ⟨(dd 5 ++ .own 0 0 :: dd 17), [.sc 0 3 I64 (lyS f n n)]⟩⟩)]
def h71 (n : Nat) (f : RF) : Hint := ⟨chk 0 [5, 6, 11, 12] (fun k => k ≤ n) (st71 n f), (ex71 n f).map (·.2)⟩
noncomputable abbrev X71 (n : Nat) (f : RF) (h : LS n f 7) : Cy := X [e80 n f 7 h]
theorem loop71 (n : Nat) (f : RF) (h : LS n f 7) (hn : n ≤ 7) (hf : ∀ i, i < n → f i i = false) (R : Exit → St → Prop) : LoopOK (X71 n f h) L71_0 (h71 n f) R := by
 refine loop_ok (X_ok _) (H := fun _ _ => none) [5, 6, 11, 12] (fun k => k ≤ n) (st71 n f) (fun k => n - k) (ex71 n f) 200 fun (i : Nat) hi => ?_
 refine of_eq (q := (fun (c : Int) => (fun (b : Int) => (fun (a : Prop) => (fun (d : Prop) => a ∧ (b < c → a ∧ a ∧ a ∧ a ∧ a ∧ a ∧ ((((0 : Int) ≤ b ∧ okLy n f (7 : Nat) i) ∧ (b = b ∧ d) ∧ c = c ∧ mkR f = mkR f ∧ (a ∧ d) ∧ a) ∧ d) ∧ idxPre b (lyS f n i).length ∧ a ∧ inR .i64 (b + 1) ∧ a ∧ ∃ (y : Nat), (y ≤ n ∧ n - y < n - i) ∧ (a ∧ a ∧ c = c ∧ b + 1 = (y : Int) ∧ a) ∧ (lyS f n i).set i (↑(lay f n (7 : Nat) i) : Int) = lyS f n y ∧ (a ∧ d) ∧ c = c ∧ mkR f = mkR f ∧ a) ∧ (¬b < c → ∃ (y : Unit), a ∧ (a ∧ a) ∧ lyS f n i = lyS f n n ∧ a)) (a ∧ a ∧ a ∧ a)) (True)) ((i : Int))) ((n : Int))) (by kernel_rfl) ?_
 simp only [zz]
 refine ⟨fun h1 => ?_, fun h1 => by rw [show i = n by omega]⟩
 have h1 : i < n := by omega
 have hc := cnt_lt (hf i h1) h1
 exact ⟨⟨by omega, ⟨hn, h1, by omega, by omega⟩⟩, by unfold idxPre; rw [lyS_len]; omega, in1 (by omega), i + 1, ⟨by omega, by omega⟩, by omega, rfl⟩
theorem call71h (n : Nat) (f : RF) (h : LS n f 7) (ht : trB f = true) (hn : n ≤ 7) : GCall Try.prog gl 71 true [.ar Q7 7 (mkR f), .int .i64 n] [] [.sl I64 (lyS f n n)] [] := by
 refine gcall_of (X := (X71 n f h)) ((X_ok _)) (f := 71) (fn := Try.f71) (c := bodyOf Try.f71) (by kernel_rfl) (by kernel_rfl) (view := true) (rvs := [.tmp 4]) (by kernel_rfl) (H := (fun _ => some (h71 n f))) 150 (by kernel_rfl) ?_
 have hL := fun R => loop71 n f h hn (fun i hi => trB_irr ht (by omega)) R
 refine of_eq (q := (fun (b : Prop) => (fun (a : Int) => b ∧ b ∧ b ∧ b ∧ ((0 : Int) ≤ a ∧ a ≤ a ∧ a * (↑(nat_lit 8) : Int) ≤ 140737488355328 ∧ a ≤ 140737488355328) ∧ b ∧ b ∧ b ∧ b ∧ b ∧ b ∧ LoopOK (X71 n f h) L71_0 (h71 n f) (RetR (X71 n f h) true true [ResultVar.tmp (4 : Tmp)] [AV.sl I64 (lyS f n n)] []) ∧ (∃ (y : Nat), y ≤ n ∧ (b ∧ b ∧ a = a ∧ (0 : Int) = (y : Int) ∧ b) ∧ List.replicate n (Ty.int .i64).dflt = lyS f n y ∧ (b ∧ b ∧ b ∧ b ∧ b) ∧ a = a ∧ mkR f = mkR f ∧ b) ∧ (∀ (y : Unit), b → b ∧ b ∧ b ∧ (lyS f n n = lyS f n n ∧ b) ∧ b) ∧ b) ((n : Int))) (True)) (by kernel_rfl) ?_
 simp only [zz]
 exact ⟨⟨by omega, by omega, by omega, by omega⟩, hL _, ⟨0, Nat.zero_le _, rfl, rfl⟩, fun _ _ => trivial⟩
theorem call71 (n : Nat) (f : RF) (ht : trB f = true) (hn : n ≤ 7) : GCall Try.prog gl 71 true [.ar Q7 7 (mkR f), .int .i64 n] [] [.sl I64 (lyS f n n)] [] := call71h n f (LS_all ht 7) ht hn
def e71 : Entry Try.prog gl := entry2 71 ⟨Try.f71, by kernel_rfl, by kernel_rfl, by kernel_rfl⟩ R7 I64 (fun xs (n : Int) => ((xs : Rl) = mkR (rg xs) ∧ (0 ≤ n ∧ n ≤ 7)) ∧ trB (rg xs) = true) true (fun xs (n : Int) => [.sl I64 (lyS (rg xs) n.toNat n.toNat)]) (fun _ _ => []) (fun xs (n : Int) h => by
 obtain ⟨⟨h1, h2⟩, h3⟩ := h
 have := call71 n.toNat (rg xs) h3 (by omega)
 rw [← h1, Int.toNat_of_nonneg h2.1] at this
 exact this)
theorem lay_ext {f g : RF} {n : Nat} (hn : n ≤ 7) (h : ∀ x y, x < 7 → y < 7 → f x y = g x y) : ∀ {d i : Nat}, i < 7 → lay f n d i = lay g n d i
 | 0, _, _ => rfl
 | d + 1, i, hi => by
   have key : ∀ k, k ≤ n → lyM f (lay f n d) i k = lyM g (lay g n d) i k := fun k => by
     induction k with
     | zero => intro _; try rfl
     | succ k ih => intro hk; rw [lyM, lyM, ih (by omega), h k i (by omega) hi, lay_ext hn h (show k < 7 by omega)]
   exact key n (Nat.le_refl _)
theorem lyS_ext {f g : RF} {n : Nat} (hn : n ≤ 7) (h : ∀ x y, x < 7 → y < 7 → f x y = g x y) : ∀ {i : Nat}, i ≤ n → lyS f n i = lyS g n i
 | 0, _ => rfl
 | i + 1, hi => by rw [lyS, lyS, lyS_ext hn h (by omega), lay_ext hn h (by omega)]
theorem lyS_rg (f : RF) {n : Nat} (hn : n ≤ 7) : lyS (rg (mkR f)) n n = lyS f n n := lyS_ext hn rgm (Nat.le_refl _)
theorem call32 (n : Nat) (l : LP) (h : orOk n l) : GCall Try.prog gl 32 false [.int .i64 n, .sl P2 l] [] [.sl I64 (lyS (adL zf l) n n), .int .i64 0] [] := by
 refine gcall_of (X := (X [e70, e71])) ((X_ok _)) (f := 32) (fn := Try.f32) (c := bodyOf Try.f32) (by kernel_rfl) (by kernel_rfl) (view := true) (rvs := [.tmp 4, .tmp 5]) (by kernel_rfl) (H := fun _ => none) 150 (by kernel_rfl) ?_
 refine of_eq (q := (fun (c : Int) => (fun (b : Prop) => (fun (a : Rl) => b ∧ b ∧ b ∧ b ∧ (orOk (n : Int) l ∧ b) ∧ b ∧ b ∧ b ∧ b ∧ b ∧ b ∧ b ∧ b ∧ (¬c = c → b ∧ b ∧ b ∧ b ∧ (([] : List Int) = lyS (adL zf l) n n ∧ c = c ∧ b) ∧ b) ∧ (¬¬c = c → b ∧ b ∧ (((a = mkR (rg a) ∧ c ≤ (n : Int) ∧ (n : Int) ≤ 7) ∧ trB (rg a) = true) ∧ b) ∧ b ∧ b ∧ b ∧ (lyS (rg a) n n = lyS (adL zf l) n n ∧ c = c ∧ b) ∧ b)) (mkR (adL zf l))) (True)) ((0 : Int))) (by kernel_rfl) ?_
 simp only [zz]
 obtain ⟨n1, n2⟩ := h.hn
 rw [lyS_rg _ (by omega)]
 exact ⟨h, fun h1 => absurd trivial h1, fun _ => ⟨⟨⟨mk_rg _, by omega, by omega⟩, (trB_ext rgm).trans h.ht⟩, rfl⟩⟩
def ixI (l : List Int) (v : Int) : Int := if v ∈ l then (l.findIdx (· == v) : Nat) else -1
def mxJ (l : List Int) : Nat → Int
 | 0 => l.getD 0 0
 | i + 1 => maxI (mxJ l i) (l.getD (i + 1) 0)
end Go.Am.Or

/- Orders: chains. -/
namespace Go.Am.Or
open Go Go.Am Go.Proofs
def pC (f : RF) (L : List Int) (t k : Nat) : Bool := f k t && decide (L.getD k 0 = L.getD t 0 - 1)
def nxt (f : RF) (L : List Int) (n t : Nat) : Nat := ((List.range n).find? (pC f L t)).getD t
def chI (f : RF) (L : List Int) (n : Nat) : Nat → Nat → List Int
 | 0, _ => []
 | d + 1, t => if 0 < L.getD t 0 then (nxt f L n t : Int) :: chI f L n d (nxt f L n t) else []
structure okC (f : RF) (n : Nat) : Prop where
 ht : trB f = true
 n1 : 1 ≤ n
 hn : n ≤ 7
structure ia31 (f : RF) (n : Nat) (R : List Int) (x : Nat × Nat × List Int) : Prop where
 e : x.2.2 ++ chI f (lyS f n n) n x.1 x.2.1 = R
 t : x.2.1 < n
 d : (lyS f n n).getD x.2.1 0 < x.1
 l : x.2.2.length + x.1 ≤ 20
def at0 (f : RF) (n : Nat) : Int := ixI (lyS f n n) (mxJ (lyS f n n) (n - 1))
def chR (f : RF) (n : Nat) : List Int := (at0 f n :: chI f (lyS f n n) n 8 (at0 f n).toNat).reverse
end Go.Am.Or

/- Orders: a clash with the fewest arrows. -/
namespace Go.Am.Or
open Go Go.Am Go.Proofs
def rvA (l : LP) : Nat → LP
 | 0 => l
 | k + 1 => ((rvA l k).set k ((rvA l k).getD (l.length - 1 - k) (0, 0))).set (l.length - 1 - k) ((rvA l k).getD k (0, 0))
theorem rvA_len (l : LP) : ∀ k, (rvA l k).length = l.length
 | 0 => rfl
 | k + 1 => by rw [rvA, List.length_set, List.length_set, rvA_len l k]
theorem rvA_get {l : LP} : ∀ {k : Nat}, 2 * k ≤ l.length → ∀ m, m < l.length → (rvA l k).getD m (0, 0) = if m < k ∨ l.length ≤ m + k then l.getD (l.length - 1 - m) (0, 0) else l.getD m (0, 0)
 | 0, _, m, hm => by rw [rvA, if_neg (by omega)]
 | k + 1, hk, m, hm => by
   have ih := rvA_get (l := l) (k := k) (by omega)
   rw [rvA, getD_set (by rw [List.length_set, rvA_len]; omega), getD_set (by rw [rvA_len]; omega)]
   by_cases e1 : m = l.length - 1 - k
   · rw [if_pos e1, ih k (by omega), if_neg (by omega), if_pos (by omega)]; congr 1; omega
   · rw [if_neg e1]
     by_cases e2 : m = k
     · rw [if_pos e2, ih _ (by omega), if_neg (by omega), if_pos (by omega)]; congr 1; omega
     · rw [if_neg e2, ih m hm]
       by_cases e3 : m < k ∨ l.length ≤ m + k
       · rw [if_pos e3, if_pos (by omega)]
       · rw [if_neg e3, if_neg (by omega)]
theorem rvA_all {l : LP} {k : Nat} (h1 : l.length ≤ 2 * k + 1) (h2 : 2 * k ≤ l.length) : rvA l k = l.reverse := by
 refine ext_getD (d := (0, 0)) (by rw [rvA_len, List.length_reverse]) fun m hm => ?_
 rw [rvA_len] at hm
 rw [rvA_get h2 m hm, getD_lt (show m < l.reverse.length by simpa using hm), List.getElem_reverse, ← getD_lt (d := (0, 0))]
 split
 · rfl
 · congr 1; omega
noncomputable def L65_0 : Code := lp (bodyOf Try.f65) 0
noncomputable abbrev X65 : Cy := Xm [] 1 (drOf [(3, 14015)])
def st65 (l : LP) (k : Nat) : St := ⟨(.own 0 0 :: .dead :: .int .i64 k :: .int .i64 ((l.length : Int) - 1 - k) :: dd 24), [.sc 0 91 AR (rvA l k)]⟩
def ex65 (l : LP) : List (List Nat × Ex) := [([], ⟨0, Nat, fun k => l.length ≤ 2 * k + 1 ∧ 2 * k ≤ l.length, fun k => ⟨(dd 28), [.sc 0 91 AR (rvA l k)]⟩⟩)]
def h65 (l : LP) : Hint := ⟨chk 1 [0, 2, 3] (fun k => 2 * k ≤ l.length) (st65 l), (ex65 l).map (·.2)⟩
theorem loop65 (l : LP) (hl : l.length < 1000000) (R : Exit → St → Prop) : LoopOK X65 L65_0 (h65 l) R := by
 refine loop_ok (Xm_ok _ _ _) (H := fun _ _ => none) [0, 2, 3] (fun k => 2 * k ≤ l.length) (st65 l) (fun k => l.length - k) (ex65 l) 200 fun (k : Nat) hk => ?_
 refine of_eq (q := (fun (i : Int) => (fun (h : Int) => (fun (g : Int) => (fun (f : Nat) => (fun (e : Prop) => (fun (d : LP) => (fun (b : Prop) => (fun (a : Int) => (fun (c : Int × Int) => e ∧ e ∧ e ∧ (g < a → e ∧ b ∧ e ∧ b ∧ e ∧ b ∧ e ∧ b ∧ e ∧ b ∧ e ∧ b ∧ idxPre a (List.length d) ∧ b ∧ e ∧ b ∧ e ∧ b ∧ e ∧ b ∧ idxPre g (List.length d) ∧ b ∧ e ∧ b ∧ idxPre g (List.length d) ∧ b ∧ e ∧ ((e ∧ AV.int .i64 a = AV.int .i64 a) ∧ (e ∧ AV.own (0 : Nat) (0 : Nat) = AV.own (0 : Nat) (0 : Nat)) ∧ e) ∧ idxPre a (List.set d k (c.fst, c.snd)).length ∧ e ∧ e ∧ e ∧ inR .i64 (g + h) ∧ e ∧ inR .i64 (a - h) ∧ e ∧ e ∧ ∃ (y : Nat), ((2 : Nat) * y ≤ f ∧ f - y < f - k) ∧ (e ∧ g + h = (y : Int) ∧ a - h = (f : Int) - h - (y : Int) ∧ e) ∧ (List.set d k (c.fst, c.snd)).set a.toNat ((List.getD d k (i, i)).fst, (List.getD d k (i, i)).snd) = rvA l y ∧ e) ∧ (¬g < a → ∃ (y : Nat), (f ≤ 2 * y + 1 ∧ (2 : Nat) * y ≤ f) ∧ e ∧ d = rvA l y ∧ e)) (List.getD d a.toNat (i, i))) ((f : Int) - h - g)) (true = true)) (rvA l k)) (True)) (List.length l)) ((k : Int))) ((1 : Int))) ((0 : Int))) (by kernel_rfl) ?_
 simp only [zz]
 refine ⟨fun h1 => ?_, fun h1 => ⟨k, ⟨by omega, hk⟩, rfl⟩⟩
 have e : ((l.length : Int) - 1 - k).toNat = l.length - 1 - k := by omega
 rw [e, List.length_set, rvA_len]
 have i1 : idxPre ((l.length : Int) - 1 - k) l.length := by unfold idxPre; omega
 have i2 : idxPre (k : Int) l.length := by unfold idxPre; omega
 exact ⟨i1, i2, i2, i1, by simp only [inR]; omega, by simp only [inR]; omega, k + 1, ⟨by omega, by omega⟩, ⟨by omega, by omega⟩, rfl⟩
theorem call65 (l : LP) (hl : l.length < 1000000) : GCall Try.prog gl 65 true [.own 0 0] [.sc 0 91 AR l] [] [.sc 0 91 AR l.reverse] := by
 refine gcall_of (X := X65) ((Xm_ok _ _ _)) (f := 65) (fn := Try.f65) (c := bodyOf Try.f65) (by kernel_rfl) (by kernel_rfl) (view := false) (rvs := []) (by kernel_rfl) (H := (fun _ => some (h65 l))) 150 (by kernel_rfl) ?_
 have hL := fun R => loop65 l hl R
 refine of_eq (q := (fun (b : Prop) => (fun (a : Int) => b ∧ b ∧ inR .i64 a ∧ b ∧ b ∧ LoopOK X65 L65_0 (h65 l) (RetR X65 true false [] [] [Ob.sc (0 : Nat) (91 : TypeId) AR (List.reverse l)]) ∧ (∃ (y : Nat), (2 : Nat) * y ≤ List.length l ∧ (b ∧ (0 : Int) = (y : Int) ∧ a = (↑(List.length l) : Int) - 1 - (y : Int) ∧ b) ∧ l = rvA l y ∧ b) ∧ (∀ (y : Nat), List.length l ≤ 2 * y + 1 ∧ (2 : Nat) * y ≤ List.length l → b ∧ b ∧ rvA l y = List.reverse l ∧ b) ∧ b) ((↑(List.length l) : Int) - 1)) (True)) (by kernel_rfl) ?_
 simp only [zz]
 exact ⟨by simp only [inR]; omega, hL _, ⟨0, by omega, ⟨rfl, by omega⟩, rfl⟩, fun y h => rvA_all h.1 h.2⟩
def get65 (_ : List AV) (obs : List Ob) : Option (LP) := unLA (obs.getD 0 .gone)
noncomputable def e65 : Entry Try.prog gl := entryW 65 ⟨Try.f65, by kernel_rfl, by kernel_rfl, by kernel_rfl⟩ true get65 (fun l => l.length < 1000000) true (fun _ => [.own 0 0]) (fun l => [.sc 0 91 AR l]) (fun _ => []) (fun l => [.sc 0 91 AR l.reverse]) call65
end Go.Am.Or

/- Orders: a clash, as it is found. -/
namespace Go.Am.Or
open Go Go.Am Go.Proofs
/-- Each arrow of the queue was reached from one ahead of it. -/
def okB (s : MA × LP) : Prop := ∀ k, k < s.2.length → ∃ j, mGet AR s.1 (s.2.getD k (0, 0)) = some (s.2.getD j (0, 0)) ∧ (j < k ∨ (k = 0 ∧ j = 0))
theorem mGet_put_eq {M : MA} {x y z : PA} : mGet AR (mPut AR M x z) y = if y = x then some z else mGet AR M y := by
 induction M with
 | nil =>
   rw [mPut, mGet_if]
 | cons p M ih =>
   rw [mPut_if]
   split
   · rename_i h
     rw [mGet_if, mGet_if, ← h]
     split
     · rfl
     · rfl
   · rename_i h
     rw [mGet_if, mGet_if, ih]
     by_cases e : y = x
     · rw [if_pos e, if_pos e, if_neg (by rw [e]; exact h)]
     · rw [if_neg e, if_neg e]
theorem getD_app {l m : LP} {k : Nat} (h : k < l.length) : (l ++ m).getD k (0, 0) = l.getD k (0, 0) := by
 rw [List.getD_eq_getElem?_getD, List.getD_eq_getElem?_getD, List.getElem?_append_left h]
theorem getD_last {l : LP} {y : PA} : (l ++ [y]).getD l.length (0, 0) = y := by
 rw [List.getD_eq_getElem?_getD]; simp
theorem stp_bf {n i : Nat} {s : MA × LP} {y : PA} (ho : okQ n s) (hi : i < s.2.length) (h : okB s) : okB (stp i s y) := by
 unfold stp
 by_cases hm : (mGet AR s.1 y).isSome = true
 · rw [if_pos hm]; exact h
 · rw [if_neg hm]
   have hn : ¬ y ∈ s.2 := fun h1 => hm ((ho.dom y).mpr h1)
   intro k hk
   simp only [List.length_append, List.length_singleton] at hk
   by_cases e : k = s.2.length
   · subst e
     refine ⟨i, ?_, .inl hi⟩
     show mGet AR (mPut AR s.1 y _) ((s.2 ++ [y]).getD s.2.length (0, 0)) = some ((s.2 ++ [y]).getD i (0, 0))
     rw [getD_last, mGet_put_eq, if_pos rfl, getD_app hi]
   · have hk : k < s.2.length := by omega
     obtain ⟨j, h1, h2⟩ := h k hk
     refine ⟨j, ?_, h2⟩
     show mGet AR (mPut AR s.1 y _) ((s.2 ++ [y]).getD k (0, 0)) = some ((s.2 ++ [y]).getD j (0, 0))
     rw [getD_app hk, getD_app (by omega), mGet_put_eq, if_neg, h1]
     exact fun e => hn (by rw [← e]; exact mem_getD hk)
theorem fold_bf {n i : Nat} : ∀ {l : LP} {s : MA × LP}, okQ n s → i < s.2.length → (∀ y, y ∈ l → (0 ≤ y.1 ∧ y.1 < n) ∧ (0 ≤ y.2 ∧ y.2 < n)) → okB s → okB (l.foldl (stp i) s)
 | [], _, _, _, _, h => h
 | y :: l, s, ho, hi, hl, h => fold_bf (l := l) (stp_ok ho (hl y (by simp))) (by have := stp_len i s y; omega) (fun z hz => hl z (by simp [hz])) (stp_bf ho hi h)
theorem rst_bf {f : RF} {n : Nat} {s : MA × LP} (ho : okQ n s) (h : okB s) : ∀ k, okB (rst f n s k)
 | 0 => h
 | k + 1 => by
   have ih := rst_bf (f := f) ho h k
   have hk := rst_ok (f := f) ho k
   rw [rst]
   split
   · rename_i hlt
     have hr := hk.rg _ (mem_getD (d := (0, 0)) hlt)
     exact fold_bf hk hlt (fcl_rg (by omega) (by omega) (Nat.le_refl n)) ih
   · exact ih
theorem rs0_bf (a b : Int) : okB (rs0 a b) := fun k hk => by
 have hk : k < 1 := hk
 refine ⟨0, ?_, .inr ⟨by omega, rfl⟩⟩
 rw [show k = 0 by omega]
 show mGet AR [((a, b), (a, b))] (a, b) = some (a, b)
 rw [mGet_if, if_pos rfl]
theorem rch_bf {f : RF} {n : Nat} {a b : Int} (ha : 0 ≤ a ∧ a < n) (hb : 0 ≤ b ∧ b < n) : okB (rch f n a b) := rst_bf (rs0_ok ha hb) (rs0_bf a b) _
theorem fold_hd {i : Nat} : ∀ {l : LP} {s : MA × LP}, 0 < s.2.length → (l.foldl (stp i) s).2.getD 0 (0, 0) = s.2.getD 0 (0, 0)
 | [], _, _ => rfl
 | y :: l, s, h => by
   show ((l.foldl (stp i) (stp i s y))).2.getD 0 (0, 0) = _
   have h1 := stp_len i s y
   rw [fold_hd (l := l) (by omega)]
   unfold stp
   split
   · rfl
   · exact getD_app h
theorem rst_hd {f : RF} {n : Nat} {s : MA × LP} (h : 0 < s.2.length) : ∀ k, (rst f n s k).2.getD 0 (0, 0) = s.2.getD 0 (0, 0) ∧ 0 < (rst f n s k).2.length
 | 0 => ⟨rfl, h⟩
 | k + 1 => by
   obtain ⟨h1, h2⟩ := rst_hd (f := f) (n := n) h k
   have h3 := rst_len (f := f) (n := n) (s := s) k
   refine ⟨?_, by omega⟩
   rw [rst]
   split
   · rw [fold_hd h2, h1]
   · exact h1
theorem rch_hd {f : RF} {n : Nat} {a b : Int} : (rch f n a b).2.getD 0 (0, 0) = (a, b) := (rst_hd (s := rs0 a b) (by simp [rs0]) 49).1
def bef (M : MA) (y : PA) : PA := (mGet AR M y).getD (0, 0)
def wyS (M : MA) (x : PA) : Nat → PA → LP
 | 0, _ => []
 | d + 1, y => if y = x then [] else bef M y :: wyS M x d (bef M y)
def tn (x : PA) : PA := (x.2, x.1)
def wyL (M : MA) (x : PA) : LP := (tn x :: wyS M x 60 (tn x)).reverse
def hit (f : RF) (n : Nat) (x : PA) : Bool := (mGet AR (rch f n x.1 x.2).1 (tn x)).isSome
def bsK (f : RF) (n : Nat) (L : LP) : Nat → LP
 | 0 => []
 | k + 1 => if hit f n (L.getD k (0, 0)) = true ∧ (bsK f n L k = [] ∨ (wyL (rch f n (L.getD k (0, 0)).1 (L.getD k (0, 0)).2).1 (L.getD k (0, 0))).length < (bsK f n L k).length) then wyL (rch f n (L.getD k (0, 0)).1 (L.getD k (0, 0)).2).1 (L.getD k (0, 0)) else bsK f n L k
theorem wyS_len (M : MA) (x : PA) : ∀ d y, (wyS M x d y).length ≤ d
 | 0, _ => Nat.le_refl _
 | d + 1, y => by
   rw [wyS]; split
   · exact Nat.zero_le _
   · have := wyS_len M x d (bef M y)
     simp only [List.length_cons]; omega
theorem wyL_len (M : MA) (x : PA) : 1 ≤ (wyL M x).length ∧ (wyL M x).length ≤ 61 := by
 have := wyS_len M x 60 (tn x)
 unfold wyL
 rw [List.length_reverse, List.length_cons]
 omega
theorem bsK_len (f : RF) (n : Nat) (L : LP) : ∀ k, (bsK f n L k).length ≤ 61
 | 0 => Nat.zero_le _
 | k + 1 => by
   rw [bsK]; split
   · exact (wyL_len _ _).2
   · exact bsK_len f n L k
noncomputable abbrev X25 : Cy := X [e45, e62, e63, e64, e65, e66]
noncomputable def L25_0 : Code := lp (bodyOf Try.f25) 0
noncomputable def L25_2 : Code := lp (bodyOf Try.f25) 2
noncomputable def L25_4 : Code := lp (bodyOf Try.f25) 4
/-- The loop back, the best one being there or not. -/
def sb25 (n : Nat) (f : RF) (L : LP) (k : Nat) (x : PA) (M : MA) (B : LP) (w : LP) : St := match B with
 | [] => ⟨(dd 7 ++ .ptr 0 0 [] :: .dead :: nl :: .dead :: .ptr 1 0 [] :: .dead :: .mp 2 :: dd 2 ++ .own 3 0 :: dd 13 ++ .sl AR L :: .int .i64 L.length :: .int .i64 k :: dd 68), [grO n f, .bx (ar x.1 x.2), .mo AR AR M, .sc 0 91 AR w]⟩
 | y :: B => ⟨(dd 7 ++ .ptr 0 0 [] :: .dead :: .own 1 0 :: .dead :: .ptr 2 0 [] :: .dead :: .mp 3 :: dd 2 ++ .own 4 0 :: dd 13 ++ .sl AR L :: .int .i64 L.length :: .int .i64 k :: dd 68), [grO n f, .sc 0 91 AR (y :: B), .bx (ar x.1 x.2), .mo AR AR M, .sc 0 91 AR w]⟩
structure ib25 (M : MA) (Q : LP) (x : PA) (W : LP) (z : Nat × PA × LP) : Prop where
 e : z.2.2 ++ [z.2.1] ++ wyS M x z.1 z.2.1 = W
 i : ∃ i, i < z.1 ∧ i < Q.length ∧ Q.getD i (0, 0) = z.2.1
 l : z.2.2.length + z.1 ≤ 100
def xb25 (n : Nat) (f : RF) (L : LP) (k : Nat) (x : PA) (M : MA) (B W : LP) : List (List Nat × Ex) := [([7, 9, 16, 30, 31, 32], ⟨2, Unit, fun _ => True, fun _ => match B with
 | [] => ⟨(dd 7 ++ .ptr 0 0 [] :: .dead :: nl :: dd 6 ++ .own 1 0 :: dd 13 ++ .sl AR L :: .int .i64 L.length :: .int .i64 k :: dd 68), [grO n f, .sc 0 91 AR W]⟩
 | y :: B => ⟨(dd 7 ++ .ptr 0 0 [] :: .dead :: .own 1 0 :: dd 6 ++ .own 2 0 :: dd 13 ++ .sl AR L :: .int .i64 L.length :: .int .i64 k :: dd 68), [grO n f, .sc 0 91 AR (y :: B), .sc 0 91 AR W]⟩⟩)]
def hb25 (n : Nat) (f : RF) (L : LP) (k : Nat) (x : PA) (M : MA) (Q B W : LP) : Hint := ⟨chk 0 [7, 9, 11, 13, 16, 30, 31, 32] (ib25 M Q x W) (fun z => sb25 n f L k x M B (z.2.2 ++ [z.2.1])), (xb25 n f L k x M B W).map (·.2)⟩
structure pb25 (M : MA) (Q : LP) (x : PA) : Prop where
 bf : okB (M, Q)
 hd : Q.getD 0 (0, 0) = x
theorem last25 {w : LP} {y : PA} : List.getD (w ++ [y]) (((w ++ [y]).length : Int) - 1).toNat (0, 0) = y := by
 rw [show (((w ++ [y]).length : Int) - 1).toNat = w.length by simp]
 exact getD_last
theorem way25 {M : MA} {Q : LP} {x : PA} {W : LP} {d : Nat} {y : PA} {w : LP} (hp : pb25 M Q x) (hz : ib25 M Q x W (d, y, w)) :
   inR .i64 (((w ++ [y]).length : Int) - 1) ∧ idxPre (((w ++ [y]).length : Int) - 1) (w ++ [y]).length ∧
     (¬ y = x → inR .i64 (((w ++ [y]).length : Int) - 1) ∧ idxPre (((w ++ [y]).length : Int) - 1) (w ++ [y]).length ∧ sumPre (w ++ [y]).length [bef M y].length 16 ∧ ∃ z : Nat × PA × LP, (ib25 M Q x W z ∧ z.1 < d) ∧ w ++ [y] ++ [bef M y] = z.2.2 ++ [z.2.1]) ∧ (¬¬ y = x → w ++ [y] = W) := by
 obtain ⟨z1, ⟨i, z2, z3, z4⟩, z5⟩ := hz
 simp only at z1 z2 z4 z5
 obtain ⟨j, rfl⟩ : ∃ j, d = j + 1 := ⟨d - 1, by omega⟩
 have g1 : inR .i64 (((w ++ [y]).length : Int) - 1) := by simp only [inR, List.length_append, List.length_singleton]; omega
 have g2 : idxPre (((w ++ [y]).length : Int) - 1) (w ++ [y]).length := by simp only [idxPre, List.length_append, List.length_singleton]; omega
 refine ⟨g1, g2, fun h => ⟨g1, g2, by simp only [sumPre, List.length_append, List.length_singleton]; omega, (j, bef M y, w ++ [y]), ⟨⟨?_, ?_, ?_⟩, Nat.lt_succ_self j⟩, rfl⟩, fun h => ?_⟩
 · simp only
   rw [wyS, if_neg h] at z1
   rw [← z1]; simp
 · obtain ⟨m, h1, h2⟩ := hp.bf i z3
   simp only at h1 h2
   have hb : bef M y = Q.getD m (0, 0) := by unfold bef; rw [← z4, h1]; try rfl
   rcases h2 with h2 | ⟨h2, _⟩
   · exact ⟨m, (show m < j by omega), by omega, hb.symm⟩
   · rw [h2, hp.hd] at z4
     exact absurd z4.symm h
 · simp only [List.length_append, List.length_singleton]; omega
 · rw [wyS, if_pos (by simpa using h), List.append_nil] at z1
   exact z1
theorem loop25bN (n : Nat) (f : RF) (L : LP) (k : Nat) (x : PA) (M : MA) (Q W : LP) (hp : pb25 M Q x) (R : Exit → St → Prop) : LoopOK X25 L25_2 (hb25 n f L k x M Q [] W) R := by
 refine loop_ok (X_ok _) (H := fun _ _ => none) [7, 9, 11, 13, 16, 30, 31, 32] (ib25 M Q x W) (fun z => sb25 n f L k x M [] (z.2.2 ++ [z.2.1])) (fun z => z.1) (xb25 n f L k x M [] W) 200 fun (z : Nat × PA × LP) hz => ?_
 obtain ⟨d, y, w⟩ := z
 refine of_eq (q := (fun (i : Nat) => (fun (g : Prop) => (fun (h : Prop) => (fun (e : Prop) => (fun (c : Int) => (fun (a : Int × Int) => (fun (j : Prop) => (fun (b : Int × Int) => g ∧ g ∧ g ∧ inR .i64 c ∧ idxPre c i ∧ g ∧ g ∧ g ∧ (j → g ∧ g ∧ g ∧ g ∧ g ∧ inR .i64 c ∧ idxPre c i ∧ g ∧ g ∧ g ∧ sumPre (List.length (w ++ [y])) [(b.fst, b.snd)].length (nat_lit 16) ∧ g ∧ ∃ (y_1 : Nat × PA × LP), (ib25 M Q x W y_1 ∧ y_1.fst < d) ∧ (g ∧ g ∧ e) ∧ h ∧ (x.fst = x.fst ∧ x.snd = x.snd ∧ g) ∧ M = M ∧ w ++ [y] ++ [(b.fst, b.snd)] = y_1.snd.snd ++ [y_1.snd.fst] ∧ g) ∧ (¬j → ∃ (y_1 : Unit), g ∧ e ∧ h ∧ w ++ [y] = W ∧ g)) ((mGet AR M (a.fst, a.snd)).getD ((0 : Int), (0 : Int)))) (¬(a.fst, a.snd) = (x.fst, x.snd))) (List.getD (w ++ [y]) c.toNat ((0 : Int), (0 : Int)))) ((i : Int) - 1)) (g ∧ g ∧ g ∧ L = L ∧ (↑(List.length L) : Int) = (↑(List.length L) : Int) ∧ (k : Int) = (k : Int) ∧ g)) ((n : Int) = (n : Int) ∧ mkR f = mkR f ∧ g)) (True)) (List.length (w ++ [y]))) (by kernel_rfl) ?_
 simp only [zz]
 rw [last25]
 exact way25 hp hz
theorem loop25bO (n : Nat) (f : RF) (L : LP) (k : Nat) (x : PA) (M : MA) (Q W : LP) (y0 : PA) (B : LP) (hp : pb25 M Q x) (R : Exit → St → Prop) : LoopOK X25 L25_2 (hb25 n f L k x M Q (y0 :: B) W) R := by
 refine loop_ok (X_ok _) (H := fun _ _ => none) [7, 9, 11, 13, 16, 30, 31, 32] (ib25 M Q x W) (fun z => sb25 n f L k x M (y0 :: B) (z.2.2 ++ [z.2.1])) (fun z => z.1) (xb25 n f L k x M (y0 :: B) W) 200 fun (z : Nat × PA × LP) hz => ?_
 obtain ⟨d, y, w⟩ := z
 refine of_eq (q := (fun (i : Nat) => (fun (g : Prop) => (fun (h : Prop) => (fun (e : Prop) => (fun (c : Int) => (fun (a : Int × Int) => (fun (j : Prop) => (fun (b : Int × Int) => g ∧ g ∧ g ∧ inR .i64 c ∧ idxPre c i ∧ g ∧ g ∧ g ∧ (j → g ∧ g ∧ g ∧ g ∧ g ∧ inR .i64 c ∧ idxPre c i ∧ g ∧ g ∧ g ∧ sumPre (List.length (w ++ [y])) [(b.fst, b.snd)].length (nat_lit 16) ∧ g ∧ ∃ (y_1 : Nat × PA × LP), (ib25 M Q x W y_1 ∧ y_1.fst < d) ∧ (g ∧ g ∧ e) ∧ h ∧ y0 :: B = y0 :: B ∧ (x.fst = x.fst ∧ x.snd = x.snd ∧ g) ∧ M = M ∧ w ++ [y] ++ [(b.fst, b.snd)] = y_1.snd.snd ++ [y_1.snd.fst] ∧ g) ∧ (¬j → ∃ (y_1 : Unit), g ∧ e ∧ h ∧ y0 :: B = y0 :: B ∧ w ++ [y] = W ∧ g)) ((mGet AR M (a.fst, a.snd)).getD ((0 : Int), (0 : Int)))) (¬(a.fst, a.snd) = (x.fst, x.snd))) (List.getD (w ++ [y]) c.toNat ((0 : Int), (0 : Int)))) ((i : Int) - 1)) (g ∧ g ∧ g ∧ L = L ∧ (↑(List.length L) : Int) = (↑(List.length L) : Int) ∧ (k : Int) = (k : Int) ∧ g)) ((n : Int) = (n : Int) ∧ mkR f = mkR f ∧ g)) (True)) (List.length (w ++ [y]))) (by kernel_rfl) ?_
 simp only [zz]
 rw [last25]
 exact way25 hp hz
def so25 (n : Nat) (f : RF) (L : LP) (B : LP) (k : Nat) : St := match B with
 | [] => ⟨(dd 7 ++ .ptr 0 0 [] :: .dead :: nl :: dd 20 ++ .sl AR L :: .int .i64 L.length :: .int .i64 k :: dd 68), [grO n f]⟩
 | y :: B => ⟨(dd 7 ++ .ptr 0 0 [] :: .dead :: .own 1 0 :: dd 20 ++ .sl AR L :: .int .i64 L.length :: .int .i64 k :: dd 68), [grO n f, .sc 0 91 AR (y :: B)]⟩
def mOf (f : RF) (n : Nat) (x : PA) : MA × LP := rch f n x.1 x.2
def hs25 (n : Nat) (f : RF) (L : LP) (B : LP) (k : Nat) : Hint := hb25 n f L k (L.getD k (0, 0)) (mOf f n (L.getD k (0, 0))).1 (mOf f n (L.getD k (0, 0))).2 B (wyL (mOf f n (L.getD k (0, 0))).1 (L.getD k (0, 0))).reverse
def fa25 (n : Nat) (f : RF) (L : LP) : List Fam := [⟨Nat, fun k => k ≤ L.length ∧ bsK f n L k = [], fun k => so25 n f L [] k, fun k => L.length - k, fun k _ => some (hs25 n f L [] k)⟩,
 ⟨Nat × PA × LP, fun x => x.1 ≤ L.length ∧ bsK f n L x.1 = x.2.1 :: x.2.2, fun x => so25 n f L (x.2.1 :: x.2.2) x.1, fun x => L.length - x.1, fun x _ => some (hs25 n f L (x.2.1 :: x.2.2) x.1)⟩]
def xa25 (n : Nat) (f : RF) (L : LP) : List (List Nat × Ex) := [([9], ⟨0, Unit, fun _ => bsK f n L L.length = [], fun _ => ⟨(dd 9 ++ nl :: dd 91), []⟩⟩), ([9], ⟨0, PA × LP, fun x => bsK f n L L.length = x.1 :: x.2, fun x => ⟨(dd 9 ++ .own 0 0 :: dd 91), [.sc 0 91 AR (x.1 :: x.2)]⟩⟩)]
def ha25 (n : Nat) (f : RF) (L : LP) : Hint := ⟨chks 0 [7, 9, 30, 31, 32] (fa25 n f L), (xa25 n f L).map (·.2)⟩
theorem nt1 {b : Bool} (h : (!b) = true) : b = false := by cases b <;> simp_all
theorem nt0 {b : Bool} (h : (!b) = false) : b = true := by cases b <;> simp_all
structure fc25 (n : Nat) (f : RF) (x : PA) : Prop where
 ok : okX (((n : Int), mkR f), x.1, x.2)
 eq : rchx (((n : Int), mkR f), x.1, x.2) = mOf f n x
 pb : pb25 (mOf f n x).1 (mOf f n x).2 x
 ib : hit f n x = true → ib25 (mOf f n x).1 (mOf f n x).2 x (wyL (mOf f n x).1 x).reverse (60, tn x, [])
theorem fc25_of {n : Nat} {f : RF} (n1 : 1 ≤ n) (hn : n ≤ 7) {x : PA} (hx : x ∈ L62 n f) : fc25 n f x := by
 obtain ⟨a, b, h1, h2, h3, h4⟩ := (L62_mem hn).mp hx
 have ha : 0 ≤ x.1 ∧ x.1 < n := by rw [h1]; simp only; omega
 have hb : 0 ≤ x.2 ∧ x.2 < n := by rw [h1]; simp only; omega
 have ho := rch_ok (f := f) ha hb
 have hbf := rch_bf (f := f) ha hb
 have hhd := rch_hd (f := f) (n := n) (a := x.1) (b := x.2)
 refine ⟨⟨okG_mk n1 hn f, ha, hb⟩, ?_, ⟨?_, ?_⟩, fun hh => ⟨?_, ?_, by show 0 + 60 ≤ 100; omega⟩⟩
 · unfold rchx mOf
   exact rch_ext hn rgm ha hb
 · unfold mOf
   generalize rch f n x.1 x.2 = r at hbf ⊢
   exact hbf
 · unfold mOf
   generalize rch f n x.1 x.2 = r at hhd ⊢
   exact hhd
 · unfold wyL
   rw [List.reverse_reverse]; try rfl
 · have hm : tn x ∈ (mOf f n x).2 := (ho.dom _).mp hh
   obtain ⟨i, hi, e⟩ := List.getElem_of_mem hm
   have hl := ho.len hn
   exact ⟨i, by show i < 60; unfold mOf at hi; omega, hi, by rw [getD_lt hi, e]⟩
theorem bsK_hit {f : RF} {n : Nat} {L : LP} {k : Nat} (h : hit f n (L.getD k (0, 0)) = true) (h2 : bsK f n L k = [] ∨ (wyL (mOf f n (L.getD k (0, 0))).1 (L.getD k (0, 0))).length < (bsK f n L k).length) : bsK f n L (k + 1) = wyL (mOf f n (L.getD k (0, 0))).1 (L.getD k (0, 0)) := by
 rw [bsK, if_pos ⟨h, h2⟩]; try rfl
theorem bsK_no {f : RF} {n : Nat} {L : LP} {k : Nat} (h : hit f n (L.getD k (0, 0)) = false ∨ ¬ (bsK f n L k = [] ∨ (wyL (mOf f n (L.getD k (0, 0))).1 (L.getD k (0, 0))).length < (bsK f n L k).length)) : bsK f n L (k + 1) = bsK f n L k := by
 rw [bsK, if_neg]
 rintro ⟨h1, h2⟩
 rcases h with h | h
 · rw [h1] at h; cases h
 · exact h h2
theorem wyL_cons (M : MA) (x : PA) : ∃ y B, wyL M x = y :: B := by
 have := (wyL_len M x).1
 match h : wyL M x, this with
 | y :: B, _ => exact ⟨y, B, rfl⟩
theorem loop25a (n : Nat) (f : RF) (n1 : 1 ≤ n) (hn : n ≤ 7) (R : Exit → St → Prop) : LoopOK X25 L25_0 (ha25 n f (L62 n f)) R := by
 have hll := L62_len (n := n) (f := f)
 refine loop_fams (X_ok _) [7, 9, 30, 31, 32] (fa25 n f (L62 n f)) (xa25 n f (L62 n f)) 200 ⟨fun (k : Nat) hk => ?_, fun (x : Nat × PA × LP) hx => ?_, trivial⟩
 · have hL : pb25 (mOf f n ((L62 n f).getD k (0, 0))).1 (mOf f n ((L62 n f).getD k (0, 0))).2 ((L62 n f).getD k (0, 0)) → LoopOK X25 L25_2 (hs25 n f (L62 n f) [] k) (bodyR 0 (xa25 n f (L62 n f)) R) := fun hp => loop25bN n f (L62 n f) k _ _ _ _ hp _
   refine of_eq (q := (fun (o : Int) => (fun (l : Int) => (fun (h : Prop) => (fun (t : Prop) => (fun (d : Prop) => (fun (b : Int × Int) => (fun (a : LP) => (fun (m : Int × Int) => (fun (q : MA) => (fun (g : Int × Int) => (fun (s : Int) => (fun (r : Int) => (fun (j : MA) => (fun (p : Bool) => (fun (e : Nat) => (fun (i : Int) => (fun (c : List (Int × Int)) => h ∧ (o < i → idxPre o (List.length a) ∧ h ∧ h ∧ h ∧ h ∧ h ∧ ((okX (((n : Int), mkR f), s, r) ∧ (h ∧ (s = s ∧ r = r ∧ h) ∧ h) ∧ d ∧ h) ∧ t) ∧ h ∧ h ∧ h ∧ h ∧ h ∧ h ∧ h ∧ t ∧ h ∧ h ∧ h ∧ h ∧ h ∧ h ∧ h ∧ h ∧ h ∧ (p = true → inR .i64 l ∧ h ∧ ((∃ (y : Nat), ((y ≤ e ∧ bsK f n a y = []) ∧ e - y < e - k) ∧ (h ∧ h ∧ a = a ∧ i = i ∧ l = (y : Int) ∧ h) ∧ d ∧ h) ∨ ∃ (y : Nat × PA × LP), ((y.fst ≤ e ∧ bsK f n a y.fst = y.snd.fst :: y.snd.snd) ∧ e - y.fst < e - k) ∧ (h ∧ False ∧ a = a ∧ i = i ∧ l = (y.fst : Int) ∧ h) ∧ d ∧ False)) ∧ (p = false → h ∧ t ∧ h ∧ h ∧ LoopOK X25 L25_2 (hs25 n f a [] k) (bodyR (0 : Nat) (xa25 n f a) R) ∧ (∃ (y : Nat × PA × LP), ib25 q (mOf f n m).snd m c y ∧ (h ∧ h ∧ h ∧ h ∧ h ∧ a = a ∧ i = i ∧ o = o ∧ h) ∧ d ∧ (s = m.fst ∧ r = m.snd ∧ h) ∧ j = q ∧ [(r, s)] = y.snd.snd ++ [y.snd.fst] ∧ h) ∧ (∀ (y : Unit), h → h ∧ ((c.length < 1000000 ∧ t ∧ c = c ∧ h) ∧ c.reverse.length = c.length ∧ h) ∧ h ∧ h ∧ h ∧ h ∧ h ∧ h ∧ inR .i64 l ∧ h ∧ ((∃ (y : Nat), ((y ≤ e ∧ bsK f n a y = []) ∧ e - y < e - k) ∧ (h ∧ False ∧ a = a ∧ i = i ∧ l = (y : Int) ∧ h) ∧ d ∧ h) ∨ ∃ (y : Nat × PA × LP), ((y.fst ≤ e ∧ bsK f n a y.fst = y.snd.fst :: y.snd.snd) ∧ e - y.fst < e - k) ∧ (h ∧ h ∧ a = a ∧ i = i ∧ l = (y.fst : Int) ∧ h) ∧ d ∧ c.reverse = y.snd.fst :: y.snd.snd ∧ h)) ∧ h)) ∧ (¬o < i → (∃ (y : Unit), bsK f n a e = [] ∧ t ∧ h) ∨ ∃ (y : PA × LP), bsK f n a e = y.fst :: y.snd ∧ (False ∧ h) ∧ False)) (List.reverse (wyL q m))) ((e : Int))) (List.length a)) (!(mGet AR j (r, s)).isSome)) ((rchx (((n : Int), mkR f), s, r)).fst)) (g.snd)) (g.fst)) (List.getD a k b)) ((mOf f n m).fst)) (List.getD a k b)) (L62 n f)) (((0 : Int), (0 : Int)))) ((n : Int) = (n : Int) ∧ mkR f = mkR f ∧ h)) (h ∧ h)) (True)) (o + 1)) ((k : Int))) (by kernel_rfl) ?_
   simp only [zz]
   obtain ⟨k1, k2⟩ := hk
   refine ⟨fun h1 => ?_, fun h1 => by rwa [show k = (L62 n f).length by omega] at k2⟩
   have h1 : k < (L62 n f).length := by omega
   have F := fc25_of n1 hn (mem_getD (d := (0, 0)) h1)
   have hb := bsK_hit (f := f) (n := n) (L := L62 n f) (k := k)
   have hno := bsK_no (f := f) (n := n) (L := L62 n f) (k := k)
   have hw := wyL_len (mOf f n ((L62 n f).getD k (0, 0))).1 ((L62 n f).getD k (0, 0))
   obtain ⟨y, B, hy⟩ := wyL_cons (mOf f n ((L62 n f).getD k (0, 0))).1 ((L62 n f).getD k (0, 0))
   rw [F.eq]
   refine ⟨idx_nat h1, F.ok, fun h => ⟨in1 (by omega), k + 1, ⟨⟨by omega, ?_⟩, by omega⟩, by omega⟩, fun h => ?_⟩
   · rw [hno (.inl (nt1 h))]; exact k2
   · have hh : hit f n ((L62 n f).getD k (0, 0)) = true := nt0 h
     refine ⟨hL F.pb, ⟨_, F.ib hh, rfl, rfl⟩, fun _ _ => ⟨⟨by rw [List.length_reverse]; omega, by simp⟩, in1 (by omega), (k + 1, y, B), ⟨⟨by show k + 1 ≤ _; omega, ?_⟩, by show _ - (k + 1) < _; omega⟩, by show _ = ((k + 1 : Nat) : Int); omega, ?_⟩⟩
     · exact (hb hh (.inl k2)).trans hy
     · rw [List.reverse_reverse]; exact hy
 · have hL : pb25 (mOf f n ((L62 n f).getD x.1 (0, 0))).1 (mOf f n ((L62 n f).getD x.1 (0, 0))).2 ((L62 n f).getD x.1 (0, 0)) → LoopOK X25 L25_2 (hs25 n f (L62 n f) (x.2.1 :: x.2.2) x.1) (bodyR 0 (xa25 n f (L62 n f)) R) := fun hp => loop25bO n f (L62 n f) x.1 _ _ _ _ _ _ hp _
   refine of_eq (q := (fun (u : Nat) => (fun (p : List (Int × Int)) => (fun (k : Int) => (fun (q : Int) => (fun (i : Prop) => (fun (w : Prop) => (fun (e : Prop) => (fun (a : LP) => (fun (h : Int × Int) => (fun (s : MA) => (fun (g : Nat) => (fun (m : Int) => (fun (j : Prop) => (fun (d : Int × Int) => (fun (v : Int) => (fun (t : Int) => (fun (l : MA) => (fun (r : Bool) => (fun (c : Prop) => (fun (b : List (Int × Int)) => (fun (o : Prop) => i ∧ (k < m → idxPre k (List.length a) ∧ i ∧ i ∧ i ∧ i ∧ i ∧ ((okX (((n : Int), mkR f), v, t) ∧ (i ∧ (v = v ∧ t = t ∧ i) ∧ i) ∧ e ∧ i) ∧ w) ∧ i ∧ i ∧ i ∧ i ∧ i ∧ i ∧ i ∧ w ∧ i ∧ i ∧ i ∧ i ∧ i ∧ i ∧ i ∧ i ∧ i ∧ (r = true → c) ∧ (r = false → i ∧ w ∧ i ∧ i ∧ LoopOK X25 L25_2 (hs25 n f a (x.snd.fst :: x.snd.snd) u) (bodyR (0 : Nat) (xa25 n f a) R) ∧ (∃ (y : Nat × PA × LP), ib25 s (mOf f n h).snd h b y ∧ (i ∧ i ∧ i ∧ i ∧ i ∧ a = a ∧ m = m ∧ k = k ∧ i) ∧ e ∧ p = p ∧ (v = h.fst ∧ t = h.snd ∧ i) ∧ l = s ∧ [(t, v)] = y.snd.snd ++ [y.snd.fst] ∧ i) ∧ (∀ (y : Unit), i → i ∧ ((b.length < 1000000 ∧ w ∧ b = b ∧ i) ∧ b.reverse.length = b.length ∧ i) ∧ i ∧ i ∧ i ∧ i ∧ i ∧ i ∧ i ∧ i ∧ i ∧ (o → i ∧ i ∧ inR .i64 q ∧ i ∧ (j ∨ ∃ (y : Nat × PA × LP), ((y.fst ≤ g ∧ bsK f n a y.fst = y.snd.fst :: y.snd.snd) ∧ g - y.fst < g - u) ∧ (i ∧ i ∧ a = a ∧ m = m ∧ q = (y.fst : Int) ∧ i) ∧ e ∧ b.reverse = y.snd.fst :: y.snd.snd ∧ i)) ∧ (¬o → c)) ∧ i)) ∧ (¬k < m → (∃ (y : Unit), bsK f n a g = [] ∧ (False ∧ i) ∧ i) ∨ ∃ (y : PA × LP), bsK f n a g = y.fst :: y.snd ∧ w ∧ p = y.fst :: y.snd ∧ i)) ((b.reverse.length : Int) < (↑(List.length x.snd.snd) : Int) + 1)) (List.reverse (wyL s h))) (inR .i64 q ∧ i ∧ (j ∨ ∃ (y : Nat × PA × LP), ((y.fst ≤ g ∧ bsK f n a y.fst = y.snd.fst :: y.snd.snd) ∧ g - y.fst < g - u) ∧ (i ∧ i ∧ a = a ∧ m = m ∧ q = (y.fst : Int) ∧ i) ∧ e ∧ p = y.snd.fst :: y.snd.snd ∧ i))) (!(mGet AR l (t, v)).isSome)) ((rchx (((n : Int), mkR f), v, t)).fst)) (d.snd)) (d.fst)) (List.getD a u ((0 : Int), (0 : Int)))) (∃ (y : Nat), ((y ≤ g ∧ bsK f n a y = []) ∧ g - y < g - u) ∧ (i ∧ False ∧ a = a ∧ m = m ∧ q = (y : Int) ∧ i) ∧ e ∧ i)) ((g : Int))) (List.length a)) ((mOf f n h).fst)) (List.getD a u ((0 : Int), (0 : Int)))) (L62 n f)) ((n : Int) = (n : Int) ∧ mkR f = mkR f ∧ i)) (i ∧ i)) (True)) (k + 1)) ((u : Int))) (x.snd.fst :: x.snd.snd)) (x.fst)) (by kernel_rfl) ?_
   simp only [zz]
   obtain ⟨k, y0, B0⟩ := x
   obtain ⟨k1, k2⟩ := hx
   simp only at k1 k2 ⊢
   refine ⟨fun h1 => ?_, fun h1 => ⟨(y0, B0), by rwa [show k = (L62 n f).length by omega] at k2, rfl⟩⟩
   have h1 : k < (L62 n f).length := by omega
   have F := fc25_of n1 hn (mem_getD (d := (0, 0)) h1)
   have hb := bsK_hit (f := f) (n := n) (L := L62 n f) (k := k)
   have hno := bsK_no (f := f) (n := n) (L := L62 n f) (k := k)
   have hw := wyL_len (mOf f n ((L62 n f).getD k (0, 0))).1 ((L62 n f).getD k (0, 0))
   obtain ⟨y, B, hy⟩ := wyL_cons (mOf f n ((L62 n f).getD k (0, 0))).1 ((L62 n f).getD k (0, 0))
   have keep : (hit f n ((L62 n f).getD k (0, 0)) = false ∨ ¬ (bsK f n (L62 n f) k = [] ∨ (wyL (mOf f n ((L62 n f).getD k (0, 0))).1 ((L62 n f).getD k (0, 0))).length < (bsK f n (L62 n f) k).length)) → inR .i64 ((k : Int) + 1) ∧ ∃ y : Nat × PA × LP, ((y.1 ≤ (L62 n f).length ∧ bsK f n (L62 n f) y.1 = y.2.1 :: y.2.2) ∧ (L62 n f).length - y.1 < (L62 n f).length - k) ∧ (k : Int) + 1 = (y.1 : Int) ∧ y0 :: B0 = y.2.1 :: y.2.2 := fun h =>
     ⟨in1 (by omega), (k + 1, y0, B0), ⟨⟨by show k + 1 ≤ _; omega, (hno h).trans k2⟩, by show _ - (k + 1) < _; omega⟩, by show _ = ((k + 1 : Nat) : Int); omega, rfl⟩
   rw [F.eq]
   refine ⟨idx_nat h1, F.ok, fun h => keep (.inl (nt1 h)), fun h => ?_⟩
   have hh : hit f n ((L62 n f).getD k (0, 0)) = true := nt0 h
   rw [List.reverse_reverse]
   refine ⟨hL F.pb, ⟨_, F.ib hh, rfl, rfl⟩, fun _ _ => ⟨⟨by rw [List.length_reverse]; omega, by simp⟩, fun h2 => ⟨in1 (by omega), (k + 1, y, B), ⟨⟨by show k + 1 ≤ _; omega, ?_⟩, by show _ - (k + 1) < _; omega⟩, by show _ = ((k + 1 : Nat) : Int); omega, hy⟩, fun h2 => keep (.inr ?_)⟩⟩
   · exact (hb hh (.inr (by rw [k2, List.length_cons]; omega))).trans hy
   · rw [k2]
     rintro (h3 | h3)
     · cases h3
     · rw [List.length_cons] at h3; omega
/-- The answer of Clash. -/
def ckL (n : Nat) (l : LP) : LP := bsK (eg l) n (L62 n (eg l)) (L62 n (eg l)).length
def ckB (n : Nat) (l : LP) : Bool := !(ckL n l).isEmpty
def fc4 (W : LP) : List Fam := [⟨Unit, fun _ => W = [], fun _ => ⟨(dd 17 ++ nl :: dd 68 ++ nl :: .int .i64 0 :: .int .i64 0 :: dd 12), []⟩, fun _ => 0, fun _ _ => none⟩,
 ⟨PA × LP, fun x => W = x.1 :: x.2, fun x => ⟨(dd 17 ++ nl :: dd 68 ++ .own 0 0 :: .int .i64 ((x.2.length : Int) + 1) :: .int .i64 0 :: dd 12), [.sc 0 91 AR (x.1 :: x.2)]⟩, fun x => x.2.length + 1, fun _ _ => none⟩,
 ⟨PA × LP × Nat, fun x => W = x.1 :: x.2.1 ∧ x.2.2 ≤ x.2.1.length, fun x => ⟨(dd 17 ++ .own 0 0 :: dd 68 ++ .own 1 0 :: .int .i64 ((x.2.1.length : Int) + 1) :: .int .i64 ((x.2.2 : Int) + 1) :: dd 12), [.sc 0 52 P2 ((x.1 :: x.2.1).take (x.2.2 + 1)), .sc 0 91 AR (x.1 :: x.2.1)]⟩, fun x => x.2.1.length - x.2.2, fun _ _ => none⟩]
def xc4 (W : LP) : List (List Nat × Ex) := [([17], ⟨4, Unit, fun _ => W = [], fun _ => ⟨(dd 17 ++ nl :: dd 83), []⟩⟩), ([17], ⟨4, PA × LP, fun x => W = x.1 :: x.2, fun x => ⟨(dd 17 ++ .own 0 0 :: dd 83), [.sc 0 52 P2 (x.1 :: x.2)]⟩⟩)]
def hc4 (W : LP) : Hint := ⟨chks 0 [17, 86, 87, 88] (fc4 W), (xc4 W).map (·.2)⟩
theorem loop25c (W : LP) (hW : W.length ≤ 61) (R : Exit → St → Prop) : LoopOK X25 L25_4 (hc4 W) R := by
 refine loop_fams (X_ok _) [17, 86, 87, 88] (fc4 W) (xc4 W) 200 ⟨fun (x : Unit) hx => ?_, fun (x : PA × LP) hx => ?_, fun (x : PA × LP × Nat) hx => ?_, trivial⟩
 · refine of_eq (q := True ∧ ((0 : Int) < 0 → False) ∧ (¬(0 : Int) < 0 → (∃ (y : Unit), W = [] ∧ (True ∧ True) ∧ True) ∨ ∃ (y : PA × LP), W = y.fst :: y.snd ∧ (False ∧ True) ∧ False)) (by kernel_rfl) ?_
   simp only [zz]
   exact ⟨fun h => by omega, fun _ => hx⟩
 · refine of_eq (q := (fun (e : Int) => (fun (d : Int) => (fun (c : Nat) => (fun (b : Prop) => (fun (a : Int) => b ∧ (e < a → idxPre e (List.length x.snd + 1) ∧ b ∧ b ∧ b ∧ b ∧ b ∧ (b ∧ b) ∧ b ∧ sumPre (0 : Nat) [(x.fst.fst, x.fst.snd)].length (nat_lit 16) ∧ b ∧ inR .i64 d ∧ b ∧ ((∃ (y : Unit), (W = [] ∧ (0 : Nat) < c) ∧ (False ∧ False ∧ a = e ∧ d = e ∧ b) ∧ b) ∨ (∃ (y : PA × LP), (W = y.fst :: y.snd ∧ List.length y.snd + 1 < c) ∧ (False ∧ False ∧ a = (↑(List.length y.snd) : Int) + d ∧ d = e ∧ b) ∧ False ∧ b) ∨ ∃ (y : PA × LP × Nat), ((W = y.fst :: y.snd.fst ∧ y.snd.snd ≤ List.length y.snd.fst) ∧ List.length y.snd.fst - y.snd.snd < c) ∧ (b ∧ b ∧ a = (↑(List.length y.snd.fst) : Int) + d ∧ d = (y.snd.snd : Int) + d ∧ b) ∧ [(x.fst.fst, x.fst.snd)] = y.fst :: List.take y.snd.snd y.snd.fst ∧ x.fst :: x.snd = y.fst :: y.snd.fst ∧ b)) ∧ (¬e < a → (∃ (y : Unit), W = [] ∧ (b ∧ b) ∧ b) ∨ ∃ (y : PA × LP), W = y.fst :: y.snd ∧ (False ∧ b) ∧ False)) ((↑(List.length x.snd) : Int) + d)) (True)) (List.length x.snd + 1)) ((1 : Int))) ((0 : Int))) (by kernel_rfl) ?_
   simp only [zz]
   have hx : W = x.1 :: x.2 := hx
   rw [hx, List.length_cons] at hW
   refine ⟨fun h1 => ⟨by unfold idxPre; omega, by simp [sumPre], by simp only [inR]; omega, (x.1, x.2, 0), ⟨⟨hx, Nat.zero_le _⟩, by show x.2.length - 0 < x.2.length + 1; omega⟩, ⟨rfl, rfl⟩, rfl, rfl⟩, fun h1 => by omega⟩
 · refine of_eq (q := (fun (i : Int) => (fun (g : Int) => (fun (f : Nat) => (fun (e : Prop) => (fun (d : LP) => (fun (j : List (Int × Int)) => (fun (h : Nat) => (fun (c : Int) => (fun (b : Int) => (fun (a : Int × Int) => e ∧ (b < c → idxPre b (List.length d + 1) ∧ e ∧ e ∧ e ∧ e ∧ e ∧ (e ∧ e) ∧ e ∧ sumPre j.length [(a.fst, a.snd)].length (nat_lit 16) ∧ e ∧ inR .i64 (b + g) ∧ e ∧ ((∃ (y : Unit), (W = [] ∧ (0 : Nat) < h) ∧ (False ∧ False ∧ c = i ∧ b + g = i ∧ e) ∧ e) ∨ (∃ (y : PA × LP), (W = y.fst :: y.snd ∧ List.length y.snd + 1 < h) ∧ (False ∧ False ∧ c = (↑(List.length y.snd) : Int) + g ∧ b + g = i ∧ e) ∧ False ∧ e) ∨ ∃ (y : PA × LP × Nat), ((W = y.fst :: y.snd.fst ∧ y.snd.snd ≤ List.length y.snd.fst) ∧ List.length y.snd.fst - y.snd.snd < h) ∧ (e ∧ e ∧ c = (↑(List.length y.snd.fst) : Int) + g ∧ b + g = (y.snd.snd : Int) + g ∧ e) ∧ j ++ [(a.fst, a.snd)] = y.fst :: List.take y.snd.snd y.snd.fst ∧ x.fst :: d = y.fst :: y.snd.fst ∧ e)) ∧ (¬b < c → (∃ (y : Unit), W = [] ∧ (False ∧ e) ∧ e) ∨ ∃ (y : PA × LP), W = y.fst :: y.snd ∧ (e ∧ e) ∧ j = y.fst :: y.snd ∧ e)) ((x.fst :: d).getD (f + 1) (i, i))) ((f : Int) + g)) ((↑(List.length d) : Int) + g)) (List.length d - f)) (x.fst :: List.take f d)) (x.snd.fst)) (True)) (x.snd.snd)) ((1 : Int))) ((0 : Int))) (by kernel_rfl) ?_
   simp only [zz]
   obtain ⟨y, B, k⟩ := x
   obtain ⟨h1, h2⟩ := hx
   simp only at h1 h2 ⊢
   rw [h1, List.length_cons] at hW
   refine ⟨fun h3 => ?_, fun h3 => ⟨(y, B), h1, by rw [List.take_of_length_le (by omega)]⟩⟩
   have h3 : k < B.length := by omega
   refine ⟨by unfold idxPre; omega, by unfold sumPre; simp; omega, by simp only [inR]; omega, (y, B, k + 1), ⟨⟨h1, by show k + 1 ≤ B.length; omega⟩, by show B.length - (k + 1) < B.length - k; omega⟩, ⟨rfl, by show _ = ((k + 1 : Nat) : Int) + 1; omega⟩, ?_, rfl⟩
   show _ = y :: B.take (k + 1)
   rw [take_getD (d := (0, 0)) h3]; try rfl
theorem call25 (n : Nat) (l : LP) (h : grOk n l) : GCall Try.prog gl 25 false [.int .i64 n, .sl P2 l] [] [.sl P2 (ckL n l), .bool (ckB n l), .int .i64 0] [] := by
 refine gcall_of (X := X25) ((X_ok _)) (f := 25) (fn := Try.f25) (c := bodyOf Try.f25) (by kernel_rfl) (by kernel_rfl) (view := true) (rvs := [.tmp 4, .tmp 5, .tmp 6]) (by kernel_rfl) (H := (fun id => if id = 0 then some (ha25 n (eg l) (L62 n (eg l))) else some (hc4 (ckL n l)))) 150 (by kernel_rfl) ?_
 obtain ⟨n1, n2⟩ := h.hn
 have hL := fun R => loop25a n (eg l) (by omega) (by omega) R
 have hM := fun R => loop25c (ckL n l) (bsK_len _ _ _ _) R
 refine of_eq (q := (fun (o : Int) => (fun (m : List ResultVar) => (fun (g : LP) => (fun (f : Int) => (fun (k : List AV) => (fun (e : Prop) => (fun (p : Prop) => (fun (h : Prop) => (fun (d : Rl) => (fun (i : Prop) => (fun (c : Prop) => (fun (b : LP) => (fun (q : Nat) => (fun (j : Prop) => (fun (a : Prop) => e ∧ e ∧ e ∧ e ∧ e ∧ (grOk (n : Int) l ∧ e) ∧ e ∧ e ∧ e ∧ e ∧ e ∧ e ∧ e ∧ (¬f = f → h) ∧ (¬¬f = f → e ∧ e ∧ ((okG ((n : Int), d) ∧ (e ∧ e) ∧ i ∧ e) ∧ e ∧ e) ∧ e ∧ e ∧ LoopOK X25 L25_0 (ha25 n (eg l) b) (RetR X25 false true m k []) ∧ ((∃ (y : Nat), (y ≤ q ∧ bsK (eg l) n b y = []) ∧ (e ∧ e ∧ L62 n (rg d) = b ∧ j ∧ f = (y : Int) ∧ e) ∧ i ∧ e) ∨ ∃ (y : Nat × PA × LP), (y.fst ≤ q ∧ bsK (eg l) n b y.fst = y.snd.fst :: y.snd.snd) ∧ (e ∧ False ∧ L62 n (rg d) = b ∧ j ∧ f = (y.fst : Int) ∧ e) ∧ i ∧ False) ∧ (∀ (y : Unit), bsK (eg l) n b q = [] → e ∧ e ∧ e ∧ e ∧ c ∧ ((∃ (y : Unit), g = [] ∧ (e ∧ e ∧ f = f ∧ p) ∧ e) ∨ (∃ (y : PA × LP), g = y.fst :: y.snd ∧ (e ∧ False ∧ f = (↑(List.length y.snd) : Int) + o ∧ p) ∧ False) ∨ ∃ (y : PA × LP × Nat), (g = y.fst :: y.snd.fst ∧ y.snd.snd ≤ List.length y.snd.fst) ∧ (False ∧ False ∧ f = (↑(List.length y.snd.fst) : Int) + o ∧ f = (y.snd.snd : Int) + o ∧ e) ∧ False) ∧ a) ∧ (∀ (y : PA × LP), bsK (eg l) n b q = y.fst :: y.snd → e ∧ e ∧ e ∧ e ∧ c ∧ ((∃ (y_1 : Unit), g = [] ∧ (e ∧ False ∧ (↑(List.length y.snd) : Int) + o = f ∧ p) ∧ e) ∨ (∃ (y_1 : PA × LP), g = y_1.fst :: y_1.snd ∧ (e ∧ e ∧ (↑(List.length y.snd) : Int) + o = (↑(List.length y_1.snd) : Int) + o ∧ p) ∧ y.fst :: y.snd = y_1.fst :: y_1.snd ∧ e) ∨ ∃ (y_1 : PA × LP × Nat), (g = y_1.fst :: y_1.snd.fst ∧ y_1.snd.snd ≤ List.length y_1.snd.fst) ∧ (False ∧ False ∧ (↑(List.length y.snd) : Int) + o = (↑(List.length y_1.snd.fst) : Int) + o ∧ f = (y_1.snd.snd : Int) + o ∧ e) ∧ False ∧ False) ∧ a) ∧ e)) ((∀ (y : Unit), g = [] → e ∧ e ∧ h) ∧ (∀ (y : PA × LP), g = y.fst :: y.snd → e ∧ e ∧ e ∧ e ∧ e ∧ e ∧ e ∧ (y.fst :: y.snd = g ∧ true = ckB n l ∧ p) ∧ e) ∧ e)) ((↑(List.length (L62 n (rg d))) : Int) = (q : Int))) (List.length b)) (L62 n (eg l))) (LoopOK X25 L25_4 (hc4 g) (RetR X25 false true m k []))) ((n : Int) = (n : Int) ∧ d = d ∧ e)) (mkR (eg l))) (e ∧ e ∧ e ∧ e ∧ e ∧ (([] : List (Int × Int)) = g ∧ false = ckB n l ∧ p) ∧ e)) (f = f ∧ e)) (True)) ([AV.sl P2 g, AV.bool (ckB n l), AV.int .i64 f])) ((0 : Int))) (ckL n l)) ([ResultVar.tmp (4 : Tmp), ResultVar.tmp (5 : Tmp), ResultVar.tmp (6 : Tmp)])) ((1 : Int))) (by kernel_rfl) ?_
 simp only [zz]
 have e : L62 n (rg (mkR (eg l))) = L62 n (eg l) := L62_ext rgm
 have c1 : ckL n l = [] → [] = ckL n l ∧ false = ckB n l := fun h => by unfold ckB; rw [h]; exact ⟨rfl, rfl⟩
 have c2 : ∀ y : PA × LP, ckL n l = y.1 :: y.2 → y.1 :: y.2 = ckL n l ∧ true = ckB n l := fun y h => by unfold ckB; rw [h]; exact ⟨rfl, rfl⟩
 rw [e]
 exact ⟨h, fun h1 => absurd trivial h1, fun _ => ⟨okG_mk (by omega) (by omega) _, hL _, ⟨0, ⟨Nat.zero_le _, rfl⟩, rfl, rfl, rfl⟩, fun _ h1 => ⟨hM _, h1, fun _ => c1, c2⟩, fun y h1 => ⟨hM _, ⟨y, h1, rfl, rfl⟩, fun _ => c1, c2⟩⟩⟩
end Go.Am.Or
