/- Part B3 of the proof that the law named in the last file returns true at every input and leaves its arguments as they were; no condition of its own. -/
import Derived.Test.YtjmfgoemdkfldaaDoorA2
import Derived.Test.YtjmfgoemdkfldaaDoorProg
import Derived.KernelRfl
set_option linter.unusedSimpArgs false
set_option linter.unusedVariables false
/- Bern: the program's types. Printed by tytab.py, beside the head. -/
namespace Go.Am.Bern
open Go Go.Am Go.Proofs
def AllOk (P : Program) : Nat -> List (Option TI) -> Prop
 | _, [] => True
 | i, none :: l => AllOk P (i + 1) l
 | i, some ti :: l => TI.Ok P i ti /\ AllOk P (i + 1) l
theorem AllOk.get {P : Program} : ∀ {l : List (Option TI)} {i j : Nat} {ti : TI}, AllOk P i l -> l[j]? = some (some ti) -> TI.Ok P (i + j) ti
 | [], i, j, ti, _, h => by simp at h
 | none :: l, i, 0, ti, _, h => by simp at h
 | some t :: l, i, 0, ti, h, hj => by simp at hj; subst hj; exact h.1
 | none :: l, i, j + 1, ti, h, hj => by
   have := AllOk.get (l := l) (i := i + 1) (j := j) h (by simpa using hj)
   rwa [show i + (j + 1) = i + 1 + j by omega]
 | some t :: l, i, j + 1, ti, h, hj => by
   have := AllOk.get (l := l) (i := i + 1) (j := j) h.2 (by simpa using hj)
   rwa [show i + (j + 1) = i + 1 + j by omega]
def ti1 : TI := ⟨.oth, 1, 8, Value.nilFunc, .vv .nilFunc, .bool, false, false⟩
theorem ti1_ok : TI.Ok Tryd.prog 1 ti1 := ⟨by kernel_rfl, by kernel_rfl, by kernel_rfl, by kernel_rfl, by kernel_rfl, by kernel_rfl, (fun h => nomatch h), (fun h => nomatch h)⟩
def ti2 : TI := ⟨.int .i64, 1, 8, Value.int IntKind.i64 0, .int .i64 0, .int .i64, true, true⟩
theorem ti2_ok : TI.Ok Tryd.prog 2 ti2 := ⟨by kernel_rfl, by kernel_rfl, by kernel_rfl, by kernel_rfl, by kernel_rfl, by kernel_rfl, fun _ => by kernel_rfl, fun _ => by kernel_rfl⟩
def ti3 : TI := ⟨.int .i64, 1, 8, Value.int IntKind.i64 0, .int .i64 0, .int .i64, true, true⟩
theorem ti3_ok : TI.Ok Tryd.prog 3 ti3 := ⟨by kernel_rfl, by kernel_rfl, by kernel_rfl, by kernel_rfl, by kernel_rfl, by kernel_rfl, fun _ => by kernel_rfl, fun _ => by kernel_rfl⟩
def ti4 : TI := ⟨.bool, 1, 1, Value.bool false, .ff, .bool, true, true⟩
theorem ti4_ok : TI.Ok Tryd.prog 4 ti4 := ⟨by kernel_rfl, by kernel_rfl, by kernel_rfl, by kernel_rfl, by kernel_rfl, by kernel_rfl, fun _ => by kernel_rfl, fun _ => by kernel_rfl⟩
def ti6 : TI := ⟨.int .u8, 1, 1, Value.int IntKind.u8 0, .int .u8 0, .int .u8, true, true⟩
theorem ti6_ok : TI.Ok Tryd.prog 6 ti6 := ⟨by kernel_rfl, by kernel_rfl, by kernel_rfl, by kernel_rfl, by kernel_rfl, by kernel_rfl, fun _ => by kernel_rfl, fun _ => by kernel_rfl⟩
def ti7 : TI := ⟨.st [(0, 2), (1, 3), (2, 4), (3, 6)], 4, 24, Value.agg #[Value.int IntKind.i64 0, Value.int IntKind.i64 0, Value.bool false, Value.int IntKind.u8 0], .agg [.int .i64 0, .int .i64 0, .ff, .int .u8 0], .s4 (.int .i64) (.int .i64) (.bool) (.int .u8), true, false⟩
theorem ti7_ok : TI.Ok Tryd.prog 7 ti7 := ⟨by kernel_rfl, by kernel_rfl, by kernel_rfl, by kernel_rfl, by kernel_rfl, by kernel_rfl, fun _ => by kernel_rfl, (fun h => nomatch h)⟩
def ti8 : TI := ⟨.st [(0, 2), (1, 3), (2, 4), (3, 6)], 4, 24, Value.agg #[Value.int IntKind.i64 0, Value.int IntKind.i64 0, Value.bool false, Value.int IntKind.u8 0], .agg [.int .i64 0, .int .i64 0, .ff, .int .u8 0], .s4 (.int .i64) (.int .i64) (.bool) (.int .u8), true, false⟩
theorem ti8_ok : TI.Ok Tryd.prog 8 ti8 := ⟨by kernel_rfl, by kernel_rfl, by kernel_rfl, by kernel_rfl, by kernel_rfl, by kernel_rfl, fun _ => by kernel_rfl, (fun h => nomatch h)⟩
def ti20 : TI := ⟨.oth, 1, 16, Value.nilIface, .vv .nilIface, .bool, false, false⟩
theorem ti20_ok : TI.Ok Tryd.prog 20 ti20 := ⟨by kernel_rfl, by kernel_rfl, by kernel_rfl, by kernel_rfl, by kernel_rfl, by kernel_rfl, (fun h => nomatch h), (fun h => nomatch h)⟩
def ti22 : TI := ⟨.sl 3, 1, 24, Value.slice none 0 0, .vv (.slice none 0 0), .sl (.int .i64), true, false⟩
theorem ti22_ok : TI.Ok Tryd.prog 22 ti22 := ⟨by kernel_rfl, by kernel_rfl, by kernel_rfl, by kernel_rfl, by kernel_rfl, by kernel_rfl, fun _ => by kernel_rfl, (fun h => nomatch h)⟩
def ti23 : TI := ⟨.ar 2 3, 2, 16, Value.agg #[Value.int IntKind.i64 0, Value.int IntKind.i64 0], ofD (.a2 (.int .i64)) (Ty.dflt (.a2 (.int .i64))), .a2 (.int .i64), true, true⟩
theorem ti23_ok : TI.Ok Tryd.prog 23 ti23 := ⟨by kernel_rfl, by kernel_rfl, by kernel_rfl, by kernel_rfl, by kernel_rfl, by kernel_rfl, fun _ => by kernel_rfl, fun _ => by kernel_rfl⟩
def ti25 : TI := ⟨.sl 48, 1, 24, Value.slice none 0 0, .vv (.slice none 0 0), .sl (.a2 (.int .i64)), true, false⟩
theorem ti25_ok : TI.Ok Tryd.prog 25 ti25 := ⟨by kernel_rfl, by kernel_rfl, by kernel_rfl, by kernel_rfl, by kernel_rfl, by kernel_rfl, fun _ => by kernel_rfl, (fun h => nomatch h)⟩
def ti26 : TI := ⟨.int .i64, 1, 8, Value.int IntKind.i64 0, .int .i64 0, .int .i64, true, true⟩
theorem ti26_ok : TI.Ok Tryd.prog 26 ti26 := ⟨by kernel_rfl, by kernel_rfl, by kernel_rfl, by kernel_rfl, by kernel_rfl, by kernel_rfl, fun _ => by kernel_rfl, fun _ => by kernel_rfl⟩
def ti37 : TI := ⟨.sl 23, 1, 24, Value.slice none 0 0, .vv (.slice none 0 0), .sl (.a2 (.int .i64)), true, false⟩
theorem ti37_ok : TI.Ok Tryd.prog 37 ti37 := ⟨by kernel_rfl, by kernel_rfl, by kernel_rfl, by kernel_rfl, by kernel_rfl, by kernel_rfl, fun _ => by kernel_rfl, (fun h => nomatch h)⟩
def ti48 : TI := ⟨.ar 2 2, 2, 16, Value.agg #[Value.int IntKind.i64 0, Value.int IntKind.i64 0], ofD (.a2 (.int .i64)) (Ty.dflt (.a2 (.int .i64))), .a2 (.int .i64), true, true⟩
theorem ti48_ok : TI.Ok Tryd.prog 48 ti48 := ⟨by kernel_rfl, by kernel_rfl, by kernel_rfl, by kernel_rfl, by kernel_rfl, by kernel_rfl, fun _ => by kernel_rfl, fun _ => by kernel_rfl⟩
def ti58 : TI := ⟨.ar 2 25, 2, 48, Value.agg #[Value.slice none 0 0, Value.slice none 0 0], ofD (.a2 (.sl (.a2 (.int .i64)))) (Ty.dflt (.a2 (.sl (.a2 (.int .i64))))), .a2 (.sl (.a2 (.int .i64))), true, false⟩
theorem ti58_ok : TI.Ok Tryd.prog 58 ti58 := ⟨by kernel_rfl, by kernel_rfl, by kernel_rfl, by kernel_rfl, by kernel_rfl, by kernel_rfl, fun _ => by kernel_rfl, (fun h => nomatch h)⟩
def ti64 : TI := ⟨.oth, 1, 8, Value.nilFunc, .vv .nilFunc, .bool, false, false⟩
theorem ti64_ok : TI.Ok Tryd.prog 64 ti64 := ⟨by kernel_rfl, by kernel_rfl, by kernel_rfl, by kernel_rfl, by kernel_rfl, by kernel_rfl, (fun h => nomatch h), (fun h => nomatch h)⟩
def ti79 : TI := ⟨.sl 25, 1, 24, Value.slice none 0 0, .vv (.slice none 0 0), .sl (.sl (.a2 (.int .i64))), true, false⟩
theorem ti79_ok : TI.Ok Tryd.prog 79 ti79 := ⟨by kernel_rfl, by kernel_rfl, by kernel_rfl, by kernel_rfl, by kernel_rfl, by kernel_rfl, fun _ => by kernel_rfl, (fun h => nomatch h)⟩
def ti85 : TI := ⟨.int .u64, 1, 8, Value.int IntKind.u64 0, .int .u64 0, .int .u64, true, true⟩
theorem ti85_ok : TI.Ok Tryd.prog 85 ti85 := ⟨by kernel_rfl, by kernel_rfl, by kernel_rfl, by kernel_rfl, by kernel_rfl, by kernel_rfl, fun _ => by kernel_rfl, fun _ => by kernel_rfl⟩
def ti87 : TI := ⟨.st [(0, 3), (1, 3)], 2, 16, Value.agg #[Value.int IntKind.i64 0, Value.int IntKind.i64 0], .agg [.int .i64 0, .int .i64 0], .s2 (.int .i64) (.int .i64), true, true⟩
theorem ti87_ok : TI.Ok Tryd.prog 87 ti87 := ⟨by kernel_rfl, by kernel_rfl, by kernel_rfl, by kernel_rfl, by kernel_rfl, by kernel_rfl, fun _ => by kernel_rfl, fun _ => by kernel_rfl⟩
def ti89 : TI := ⟨.sl 106, 1, 24, Value.slice none 0 0, .vv (.slice none 0 0), .sl (.s2 (.int .i64) (.int .i64)), true, false⟩
theorem ti89_ok : TI.Ok Tryd.prog 89 ti89 := ⟨by kernel_rfl, by kernel_rfl, by kernel_rfl, by kernel_rfl, by kernel_rfl, by kernel_rfl, fun _ => by kernel_rfl, (fun h => nomatch h)⟩
def ti92 : TI := ⟨.pt 127, 1, 8, Value.pointer none, .vv (.pointer none), .bool, false, false⟩
theorem ti92_ok : TI.Ok Tryd.prog 92 ti92 := ⟨by kernel_rfl, by kernel_rfl, by kernel_rfl, by kernel_rfl, by kernel_rfl, by kernel_rfl, (fun h => nomatch h), (fun h => nomatch h)⟩
def ti94 : TI := ⟨.sl 87, 1, 24, Value.slice none 0 0, .vv (.slice none 0 0), .sl (.s2 (.int .i64) (.int .i64)), true, false⟩
theorem ti94_ok : TI.Ok Tryd.prog 94 ti94 := ⟨by kernel_rfl, by kernel_rfl, by kernel_rfl, by kernel_rfl, by kernel_rfl, by kernel_rfl, fun _ => by kernel_rfl, (fun h => nomatch h)⟩
def ti97 : TI := ⟨.oth, 1, 8, Value.nilFunc, .vv .nilFunc, .bool, false, false⟩
theorem ti97_ok : TI.Ok Tryd.prog 97 ti97 := ⟨by kernel_rfl, by kernel_rfl, by kernel_rfl, by kernel_rfl, by kernel_rfl, by kernel_rfl, (fun h => nomatch h), (fun h => nomatch h)⟩
def ti101 : TI := ⟨.oth, 1, 8, Value.nilFunc, .vv .nilFunc, .bool, false, false⟩
theorem ti101_ok : TI.Ok Tryd.prog 101 ti101 := ⟨by kernel_rfl, by kernel_rfl, by kernel_rfl, by kernel_rfl, by kernel_rfl, by kernel_rfl, (fun h => nomatch h), (fun h => nomatch h)⟩
def ti106 : TI := ⟨.st [(0, 2), (1, 2)], 2, 16, Value.agg #[Value.int IntKind.i64 0, Value.int IntKind.i64 0], .agg [.int .i64 0, .int .i64 0], .s2 (.int .i64) (.int .i64), true, true⟩
theorem ti106_ok : TI.Ok Tryd.prog 106 ti106 := ⟨by kernel_rfl, by kernel_rfl, by kernel_rfl, by kernel_rfl, by kernel_rfl, by kernel_rfl, fun _ => by kernel_rfl, fun _ => by kernel_rfl⟩
def ti111 : TI := ⟨.ar 7 3, 7, 56, Value.agg #[Value.int IntKind.i64 0, Value.int IntKind.i64 0, Value.int IntKind.i64 0, Value.int IntKind.i64 0, Value.int IntKind.i64 0, Value.int IntKind.i64 0, Value.int IntKind.i64 0], ofD (.ar 7 (.int .i64)) (Ty.dflt (.ar 7 (.int .i64))), .ar 7 (.int .i64), true, false⟩
theorem ti111_ok : TI.Ok Tryd.prog 111 ti111 := ⟨by kernel_rfl, by kernel_rfl, by kernel_rfl, by kernel_rfl, by kernel_rfl, by kernel_rfl, fun _ => by kernel_rfl, (fun h => nomatch h)⟩
def ti117 : TI := ⟨.ar 2 89, 2, 48, Value.agg #[Value.slice none 0 0, Value.slice none 0 0], ofD (.a2 (.sl (.s2 (.int .i64) (.int .i64)))) (Ty.dflt (.a2 (.sl (.s2 (.int .i64) (.int .i64))))), .a2 (.sl (.s2 (.int .i64) (.int .i64))), true, false⟩
theorem ti117_ok : TI.Ok Tryd.prog 117 ti117 := ⟨by kernel_rfl, by kernel_rfl, by kernel_rfl, by kernel_rfl, by kernel_rfl, by kernel_rfl, fun _ => by kernel_rfl, (fun h => nomatch h)⟩
def ti121 : TI := ⟨.ar 6 2, 6, 48, Value.agg #[Value.int IntKind.i64 0, Value.int IntKind.i64 0, Value.int IntKind.i64 0, Value.int IntKind.i64 0, Value.int IntKind.i64 0, Value.int IntKind.i64 0], ofD (.ar 6 (.int .i64)) (Ty.dflt (.ar 6 (.int .i64))), .ar 6 (.int .i64), true, false⟩
theorem ti121_ok : TI.Ok Tryd.prog 121 ti121 := ⟨by kernel_rfl, by kernel_rfl, by kernel_rfl, by kernel_rfl, by kernel_rfl, by kernel_rfl, fun _ => by kernel_rfl, (fun h => nomatch h)⟩
def ti122 : TI := ⟨.int .u64, 1, 8, Value.int IntKind.u64 0, .int .u64 0, .int .u64, true, true⟩
theorem ti122_ok : TI.Ok Tryd.prog 122 ti122 := ⟨by kernel_rfl, by kernel_rfl, by kernel_rfl, by kernel_rfl, by kernel_rfl, by kernel_rfl, fun _ => by kernel_rfl, fun _ => by kernel_rfl⟩
def ti125 : TI := ⟨.mp 87 89, 1, 8, Value.map none, .vv (.map none), .bool, false, false⟩
theorem ti125_ok : TI.Ok Tryd.prog 125 ti125 := ⟨by kernel_rfl, by kernel_rfl, by kernel_rfl, by kernel_rfl, by kernel_rfl, by kernel_rfl, (fun h => nomatch h), (fun h => nomatch h)⟩
def ti127 : TI := ⟨.st [(0, 22), (1, 125)], 2, 32, Value.agg #[Value.slice none 0 0, Value.map none], .agg [.vv (.slice none 0 0), .vv (.map none)], .bool, false, false⟩
theorem ti127_ok : TI.Ok Tryd.prog 127 ti127 := ⟨by kernel_rfl, by kernel_rfl, by kernel_rfl, by kernel_rfl, by kernel_rfl, by kernel_rfl, (fun h => nomatch h), (fun h => nomatch h)⟩
def ti128 : TI := ⟨.oth, 1, 8, Value.nilFunc, .vv .nilFunc, .bool, false, false⟩
theorem ti128_ok : TI.Ok Tryd.prog 128 ti128 := ⟨by kernel_rfl, by kernel_rfl, by kernel_rfl, by kernel_rfl, by kernel_rfl, by kernel_rfl, (fun h => nomatch h), (fun h => nomatch h)⟩
def ti129 : TI := ⟨.oth, 1, 8, Value.nilFunc, .vv .nilFunc, .bool, false, false⟩
theorem ti129_ok : TI.Ok Tryd.prog 129 ti129 := ⟨by kernel_rfl, by kernel_rfl, by kernel_rfl, by kernel_rfl, by kernel_rfl, by kernel_rfl, (fun h => nomatch h), (fun h => nomatch h)⟩
def ti133 : TI := ⟨.oth, 1, 8, Value.nilFunc, .vv .nilFunc, .bool, false, false⟩
theorem ti133_ok : TI.Ok Tryd.prog 133 ti133 := ⟨by kernel_rfl, by kernel_rfl, by kernel_rfl, by kernel_rfl, by kernel_rfl, by kernel_rfl, (fun h => nomatch h), (fun h => nomatch h)⟩
def ti135 : TI := ⟨.ar 7 106, 14, 112, Value.agg #[Value.int IntKind.i64 0, Value.int IntKind.i64 0, Value.int IntKind.i64 0, Value.int IntKind.i64 0, Value.int IntKind.i64 0, Value.int IntKind.i64 0, Value.int IntKind.i64 0, Value.int IntKind.i64 0, Value.int IntKind.i64 0, Value.int IntKind.i64 0, Value.int IntKind.i64 0, Value.int IntKind.i64 0, Value.int IntKind.i64 0, Value.int IntKind.i64 0], ofD (.ar 7 (.s2 (.int .i64) (.int .i64))) (Ty.dflt (.ar 7 (.s2 (.int .i64) (.int .i64)))), .ar 7 (.s2 (.int .i64) (.int .i64)), true, false⟩
theorem ti135_ok : TI.Ok Tryd.prog 135 ti135 := ⟨by kernel_rfl, by kernel_rfl, by kernel_rfl, by kernel_rfl, by kernel_rfl, by kernel_rfl, fun _ => by kernel_rfl, (fun h => nomatch h)⟩
def ti136 : TI := ⟨.oth, 1, 8, Value.nilFunc, .vv .nilFunc, .bool, false, false⟩
theorem ti136_ok : TI.Ok Tryd.prog 136 ti136 := ⟨by kernel_rfl, by kernel_rfl, by kernel_rfl, by kernel_rfl, by kernel_rfl, by kernel_rfl, (fun h => nomatch h), (fun h => nomatch h)⟩
def ti138 : TI := ⟨.sl 2, 1, 24, Value.slice none 0 0, .vv (.slice none 0 0), .sl (.int .i64), true, false⟩
theorem ti138_ok : TI.Ok Tryd.prog 138 ti138 := ⟨by kernel_rfl, by kernel_rfl, by kernel_rfl, by kernel_rfl, by kernel_rfl, by kernel_rfl, fun _ => by kernel_rfl, (fun h => nomatch h)⟩
def ttL : List (Option TI) := [none, some ti1, some ti2, some ti3, some ti4, none, some ti6, some ti7, some ti8, none, none, none, none, none, none, none, none, none, none, none, some ti20, none, some ti22, some ti23, none, some ti25, some ti26, none, none, none, none, none, none, none, none, none, none, some ti37, none, none, none, none, none, none, none, none, none, none, some ti48, none, none, none, none, none, none, none, none, none, some ti58, none, none, none, none, none, some ti64, none, none, none, none, none, none, none, none, none, none, none, none, none, none, some ti79, none, none, none, none, none, some ti85, none, some ti87, none, some ti89, none, none, some ti92, none, some ti94, none, none, some ti97, none, none, none, some ti101, none, none, none, none, some ti106, none, none, none, none, some ti111, none, none, none, none, none, some ti117, none, none, none, some ti121, some ti122, none, none, some ti125, none, some ti127, some ti128, some ti129, none, none, none, some ti133, none, some ti135, some ti136, none, some ti138, none, none, none, none, none, none, none, none, none, none, none, none, none, none, none, none, none]
theorem ttL_ok : AllOk Tryd.prog 0 ttL := ⟨ti1_ok, ti2_ok, ti3_ok, ti4_ok, ti6_ok, ti7_ok, ti8_ok, ti20_ok, ti22_ok, ti23_ok, ti25_ok, ti26_ok, ti37_ok, ti48_ok, ti58_ok, ti64_ok, ti79_ok, ti85_ok, ti87_ok, ti89_ok, ti92_ok, ti94_ok, ti97_ok, ti101_ok, ti106_ok, ti111_ok, ti117_ok, ti121_ok, ti122_ok, ti125_ok, ti127_ok, ti128_ok, ti129_ok, ti133_ok, ti135_ok, ti136_ok, ti138_ok, trivial⟩
def getTI : List (Option TI) -> Nat -> Option TI
 | [], _ => none
 | a :: _, 0 => a
 | _ :: l, n + 1 => getTI l n
theorem getTI_some : ∀ {l : List (Option TI)} {n : Nat} {ti : TI}, getTI l n = some ti -> l[n]? = some (some ti)
 | [], _, _, h => by simp [getTI] at h
 | a :: _, 0, ti, h => by simp [getTI] at h; simp [h]
 | _ :: l, n + 1, ti, h => by simpa using getTI_some (l := l) h
def tt (T : TypeId) : Option TI := getTI ttL T
theorem tt_ok (T : TypeId) (ti : TI) (h : tt T = some ti) : TI.Ok Tryd.prog T ti := by
 have := ttL_ok.get (getTI_some h)
 rwa [Nat.zero_add] at this
end Go.Am.Bern

/- Bern, plain: fractions as pairs of integers in lowest terms. -/
namespace Go.Am.Bern
open Rat (divInt)
def small (a : Int) : Prop := a.natAbs < 9223372036854775808
def qp (r : Rat) : Int × Int := (r.num, (r.den : Int))
def rat (x : Int × Int) : Rat := Rat.divInt x.1 x.2
@[simp] theorem qp_fst (r : Rat) : (qp r).fst = r.num := rfl
@[simp] theorem qp_snd (r : Rat) : (qp r).snd = (r.den : Int) := rfl
@[simp] theorem rat_qp (r : Rat) : rat (qp r) = r := Rat.num_divInt_den r
@[simp] theorem rat_num_den (r : Rat) : rat (r.num, (r.den : Int)) = r := Rat.num_divInt_den r
def good (x : Int × Int) : Prop := qp (rat x) = x
theorem good_qp (r : Rat) : good (qp r) := by simp [good]
theorem rat_int (a : Int) : rat (a, 1) = (a : Rat) := by
 have := Rat.num_divInt_den (a : Rat)
 simpa [rat] using this
theorem good_nd (r : Rat) : good (r.num, (r.den : Int)) := by unfold good; rw [rat_num_den]; try rfl
/-- What the propositions of a run are cleared by. -/
theorem zz : (∀ p : Prop, (True /\ p) = p) /\ (∀ p : Prop, (p /\ True) = p) /\ (∀ p : Prop, (False /\ p) = False) /\ (∀ p : Prop, (p /\ False) = False) /\ (∀ p : Prop, (p ∨ False) = p) /\ (∀ p : Prop, (False ∨ p) = p)
   /\ (∀ (b : Prop) (α : Type) [Nonempty α], (∃ _ : α, b) ↔ b) /\ (∀ α : Type, ¬ ∃ _ : α, False) /\ (∀ r : Rat, rat (r.num, (r.den : Int)) = r) /\ (∀ a : Int, rat (a, 1) = (a : Rat)) /\ ∀ n : Nat, (n : Int).toNat = n :=
 ⟨true_and, and_true, false_and, and_false, or_false, false_or, fun _ α _ => exists_const α, fun _ h => h.elim fun _ h => h, rat_num_den, rat_int, Int.toNat_natCast⟩
theorem good_int (a : Int) : good (a, 1) := by unfold good; rw [rat_int]; try rfl
def gcdR (a b : Int) : Int := max (Int.gcd a b : Int) 1
def fracR (a b : Int) : Int × Int := (a.tdiv (gcdR a b), b.tdiv (gcdR a b))
theorem gcdR_pos (a b : Int) : 0 < gcdR a b := by unfold gcdR; omega
theorem gcdR_eq {a b : Int} (h : a ≠ 0 ∨ b ≠ 0) : gcdR a b = (Int.gcd a b : Int) := by
 have : 0 < Int.gcd a b := Int.gcd_pos_iff.mpr h
 unfold gcdR; omega
theorem fracR_eq {a b : Int} (hb : 0 < b) : fracR a b = qp (Rat.divInt a b) := by
 have hg : gcdR a b = (Int.gcd a b : Int) := gcdR_eq (.inr (by omega))
 have h0 : 0 < Int.gcd a b := Int.gcd_pos_iff.mpr (.inr (by omega))
 unfold fracR qp
 rw [hg, Rat.num_divInt, Rat.den_divInt, if_neg (by omega), Int.sign_eq_one_of_pos hb, Int.one_mul, Int.gcd_comm b a]
 refine Prod.ext ?_ ?_
 · simp only
   exact Int.tdiv_eq_ediv_of_dvd (Int.gcd_dvd_left ..)
 · simp only
   rw [Int.tdiv_eq_ediv_of_dvd (Int.gcd_dvd_right ..), Int.natCast_ediv]
   congr 1; omega
theorem gcd_step (a b : Int) : Nat.gcd b.natAbs (a.tmod b).natAbs = Nat.gcd a.natAbs b.natAbs := by
 rw [Int.natAbs_tmod, Nat.gcd_comm b.natAbs, Nat.gcd_comm a.natAbs, <- Nat.gcd_rec]
theorem tmod_small {a b : Int} (h : small b) : small (a.tmod b) ∨ b = 0 := by
 unfold small at *
 rw [Int.natAbs_tmod]
 by_cases h0 : b = 0
 · exact .inr h0
 · exact .inl (Nat.lt_trans (Nat.mod_lt _ (by omega)) h)
theorem tmod_lt {a b : Int} (h : b ≠ 0) : (a.tmod b).natAbs < b.natAbs := by
 rw [Int.natAbs_tmod]; exact Nat.mod_lt _ (by omega)
/-- A fraction of denominator D, with a numerator of at most M. -/
def fr (D M : Int) (r : Rat) : Prop := ∃ m : Int, r = Rat.divInt m D /\ -M <= m /\ m <= M
theorem natAbs_ediv_le (m : Int) (g : Int) : (m / g).natAbs <= m.natAbs ∨ g <= 0 := by
 by_cases hg : 0 < g
 · left
   rcases Int.le_total 0 m with h | h
   · have := Int.ediv_nonneg h (Int.le_of_lt hg)
     have := Int.ediv_le_self g h
     omega
   · have h1 : m <= m / g := by
       rw [Int.le_ediv_iff_mul_le hg]
       have := Int.mul_le_mul_of_nonpos_left h (show (1 : Int) <= g by omega)
       omega
     have h2 : m / g <= 0 := Int.ediv_nonpos_of_nonpos_of_neg h (by omega)
     omega
 · right; omega
theorem fr.spec {D M : Int} {r : Rat} (h : fr D M r) (hD : 0 < D) : (r.den : Int) ∣ D /\ -M <= r.num * (D / r.den) /\ r.num * (D / r.den) <= M /\ r.num.natAbs <= M /\ (r.den : Int) <= D := by
 obtain ⟨m, rfl, h1, h2⟩ := h
 have h0 : 0 < Int.gcd D m := Int.gcd_pos_iff.mpr (.inl (by omega))
 have e1 : ((Rat.divInt m D).den : Int) = D / (Int.gcd D m : Int) := by
   rw [Rat.den_divInt, if_neg (by omega), Int.natCast_ediv]; congr 1; omega
 have e2 : (Rat.divInt m D).num = m / (Int.gcd D m : Int) := by
   rw [Rat.num_divInt, Int.sign_eq_one_of_pos hD, Int.one_mul]
 have d1 : (Int.gcd D m : Int) ∣ D := Int.gcd_dvd_left ..
 have d2 : (Int.gcd D m : Int) ∣ m := Int.gcd_dvd_right ..
 rw [e1, e2]
 obtain ⟨k, hk⟩ := d1
 obtain ⟨l, hl⟩ := d2
 generalize hG : (Int.gcd D m : Int) = G at *
 have hG0 : 0 < G := by omega
 have q1 : D / G = k := by rw [hk]; exact Int.mul_ediv_cancel_left _ (by omega)
 have q2 : m / G = l := by rw [hl]; exact Int.mul_ediv_cancel_left _ (by omega)
 rw [q1, q2]
 have hk0 : 0 < k := by
   rcases Int.lt_trichotomy k 0 with h | h | h
   · have := Int.mul_neg_of_pos_of_neg hG0 h; omega
   · subst h; simp at hk; omega
   · exact h
 have q3 : D / k = G := by rw [hk]; exact Int.mul_ediv_cancel _ (by omega)
 rw [q3, Int.mul_comm l G, <- hl]
 refine ⟨⟨G, by rw [hk, Int.mul_comm]⟩, h1, h2, ?_, ?_⟩
 · have := natAbs_ediv_le m G
   rw [q2] at this
   omega
 · have := Int.mul_le_mul_of_nonneg_right (show 1 <= G by omega) (Int.le_of_lt hk0)
   rw [Int.one_mul, <- hk] at this; exact this
theorem fr.add {D M N : Int} {r s : Rat} (hr : fr D M r) (hs : fr D N s) (hD : 0 < D) : fr D (M + N) (r + s) := by
 obtain ⟨m, rfl, h1, h2⟩ := hr
 obtain ⟨n, rfl, h3, h4⟩ := hs
 refine ⟨m + n, ?_, by omega, by omega⟩
 rw [Rat.divInt_add_divInt _ _ (by omega) (by omega), <- Int.add_mul, Rat.divInt_mul_right (by omega)]
theorem fr.neg {D M : Int} {r : Rat} (hr : fr D M r) : fr D M (-r) := by
 obtain ⟨m, rfl, h1, h2⟩ := hr
 exact ⟨-m, by rw [Rat.neg_divInt], by omega, by omega⟩
theorem fr.mul {D D' M : Int} {r : Rat} {n : Int} (N : Int) (hr : fr D M r) (hn : -N <= n /\ n <= N) : fr (D * D') (M * N) (r * Rat.divInt n D') := by
 obtain ⟨m, rfl, h1, h2⟩ := hr
 refine ⟨m * n, Rat.divInt_mul_divInt .., ?_⟩
 have : (m * n).natAbs <= M.natAbs * N.natAbs := by rw [Int.natAbs_mul]; exact Nat.mul_le_mul (by omega) (by omega)
 have e : ((M.natAbs * N.natAbs : Nat) : Int) = M * N := by rw [Int.natCast_mul]; congr 1 <;> omega
 omega
theorem fr.mono {D M M' : Int} {r : Rat} (hr : fr D M r) (h : M <= M') : fr D M' r := by
 obtain ⟨m, rfl, h1, h2⟩ := hr
 exact ⟨m, rfl, by omega, by omega⟩
theorem fr.scale {D M k : Int} {r : Rat} (hr : fr D M r) (hk : 0 < k) : fr (D * k) (M * k) r := by
 obtain ⟨m, rfl, h1, h2⟩ := hr
 refine ⟨m * k, (Rat.divInt_mul_right (by omega)).symm, ?_, Int.mul_le_mul_of_nonneg_right h2 (by omega)⟩
 rw [<- Int.neg_mul]; exact Int.mul_le_mul_of_nonneg_right h1 (by omega)
theorem fr.int {M a : Int} (h : -M <= a /\ a <= M) : fr 1 M (Rat.divInt a 1) := ⟨a, rfl, h.1, h.2⟩
theorem fr.cast {M a : Int} (h : -M <= a /\ a <= M) : fr 1 M (a : Rat) := ⟨a, by rw [<- rat_int]; rfl, h.1, h.2⟩
/-- What a sum needs. -/
def addOk (r s : Rat) : Prop := ∃ D M N : Int, 0 < D /\ D < 9223372036854775808 /\ fr D M r /\ fr D N s /\ M + N < 9223372036854775808
def sq (r : Rat) : Prop := small r.num /\ small (r.den : Int)
def mulOk (r s : Rat) : Prop := sq r /\ sq s /\ ∃ D M : Int, 0 < D /\ D < 9223372036854775808 /\ M < 9223372036854775808 /\ fr D M (r * s)
theorem fr.sq {D M : Int} {r : Rat} (h : fr D M r) (hD : 0 < D) (hD2 : D < 9223372036854775808) (hM : M < 9223372036854775808) : sq r := by
 have := h.spec hD
 exact ⟨by unfold small; omega, by unfold small; omega⟩
theorem lcm_facts (r s : Rat) : ∃ g p q : Int, gcdR r.den s.den = g /\ 0 < g /\ (r.den : Int) = g * p /\ (s.den : Int) = g * q /\ 0 < p /\ 0 < q /\ ∀ D : Int, (r.den : Int) ∣ D -> (s.den : Int) ∣ D -> g * p * q ∣ D := by
 have hr := r.den_pos
 have hs := s.den_pos
 have hg : gcdR r.den s.den = (Int.gcd r.den s.den : Int) := gcdR_eq (.inl (by omega))
 have h0 : 0 < Int.gcd r.den s.den := Int.gcd_pos_iff.mpr (.inl (by omega))
 refine ⟨_, (r.den : Int) / (Int.gcd r.den s.den : Int), (s.den : Int) / (Int.gcd r.den s.den : Int), hg, by omega, ?_, ?_, ?_, ?_, ?_⟩
 · exact (Int.mul_ediv_cancel' (Int.gcd_dvd_left ..)).symm
 · exact (Int.mul_ediv_cancel' (Int.gcd_dvd_right ..)).symm
 · exact Int.ediv_pos_of_pos_of_dvd (by omega) (by omega) (Int.gcd_dvd_left ..)
 · exact Int.ediv_pos_of_pos_of_dvd (by omega) (by omega) (Int.gcd_dvd_right ..)
 · intro D h1 h2
   rw [Int.mul_ediv_cancel' (Int.gcd_dvd_left ..)]
   have h3 : ((Nat.lcm r.den s.den : Nat) : Int) ∣ D := by
     rw [Int.ofNat_dvd_left] at h1 h2
     rw [Int.ofNat_dvd_left]
     exact Nat.lcm_dvd h1 h2
   have : (r.den : Int) * ((s.den : Int) / (Int.gcd r.den s.den : Int)) = ((Nat.lcm r.den s.den : Nat) : Int) := by
     simp only [Int.gcd_natCast_natCast, Nat.lcm]
     rw [<- Int.natCast_ediv, <- Int.natCast_mul, Nat.mul_div_assoc _ (Nat.gcd_dvd_right ..)]
   rw [this]; exact h3
theorem add_facts {r s : Rat} (h : addOk r s) : ∃ g p q : Int, gcdR r.den s.den = g /\ 0 < g /\ (r.den : Int).tdiv g = p /\ (s.den : Int).tdiv g = q /\ 0 < p /\ 0 < q /\
   small (r.num * q) /\ small (s.num * p) /\ small (r.num * q + s.num * p) /\ small (p * s.den) /\ 0 < p * s.den /\ small p /\ small q /\ small r.den /\ small s.den /\ small r.num /\ small s.num /\ small (r.den * q) /\ 0 < r.den * q /\
   Rat.divInt (r.num * q + s.num * p) (p * s.den) = r + s /\ Rat.divInt (r.num * q + s.num * p) (r.den * q) = r + s := by
 obtain ⟨D, M, N, hD, hD2, hr, hs, hMN⟩ := h
 obtain ⟨a1, a2, a3, a4, a5⟩ := hr.spec hD
 obtain ⟨b1, b2, b3, b4, b5⟩ := hs.spec hD
 obtain ⟨g, p, q, e0, hg, ep, eq, hp, hq, hL⟩ := lcm_facts r s
 obtain ⟨k, hk⟩ := hL D a1 b1
 have hgp : 0 < g * p := Int.mul_pos hg hp
 have hgpq : 0 < g * p * q := Int.mul_pos hgp hq
 have hk0 : 0 < k := by
   rcases Int.lt_trichotomy k 0 with h | h | h
   · have := Int.mul_neg_of_pos_of_neg hgpq h; omega
   · subst h; simp at hk; omega
   · exact h
 have c1 : D / (r.den : Int) = q * k := by
   rw [ep, hk, Int.mul_assoc]; exact Int.mul_ediv_cancel_left _ (by omega)
 have c2 : D / (s.den : Int) = p * k := by
   rw [eq, hk, show g * p * q * k = g * q * (p * k) by rw [Int.mul_assoc g p q, Int.mul_comm p q, <- Int.mul_assoc g q p, Int.mul_assoc (g*q)]]
   exact Int.mul_ediv_cancel_left _ (by have := Int.mul_pos hg hq; omega)
 rw [c1] at a2 a3
 rw [c2] at b2 b3
 have le1 : ∀ x : Int, (x).natAbs <= (x * k).natAbs := fun x => by
   rw [Int.natAbs_mul]; exact Nat.le_mul_of_pos_right _ (by omega)
 have l1 := le1 (r.num * q)
 have l2 := le1 (s.num * p)
 have l3 := le1 (r.num * q + s.num * p)
 have l4 := le1 (g * p * q)
 rw [<- hk] at l4
 rw [Int.add_mul] at l3
 rw [Int.mul_assoc] at l1 l2
 rw [Int.mul_assoc, Int.mul_assoc] at l3
 have hpq : p * (s.den : Int) = g * p * q := by rw [eq, <- Int.mul_assoc, Int.mul_comm p g]
 have hpq2 : (r.den : Int) * q = g * p * q := by rw [ep]
 have sp : p <= g * p := by have := Int.mul_le_mul_of_nonneg_right (show 1 <= g by omega) (Int.le_of_lt hp); omega
 have sq : q <= g * q := by have := Int.mul_le_mul_of_nonneg_right (show 1 <= g by omega) (Int.le_of_lt hq); omega
 have hsum : Rat.divInt (r.num * q + s.num * p) (p * s.den) = r + s := by
   conv => rhs; rw [<- Rat.num_divInt_den r, <- Rat.num_divInt_den s]
   rw [Rat.divInt_add_divInt _ _ (by omega) (by omega), hpq, ep, eq]
   rw [show r.num * (g * q) + s.num * (g * p) = g * (r.num * q + s.num * p) by rw [Int.mul_add]; congr 1 <;> (rw [<- Int.mul_assoc, <- Int.mul_assoc]; congr 1; exact Int.mul_comm ..),
     show g * p * (g * q) = g * (g * p * q) by rw [Int.mul_assoc g p q, Int.mul_assoc g p (g * q)]; congr 1; rw [<- Int.mul_assoc, Int.mul_comm p g, Int.mul_assoc], Rat.divInt_mul_left (by omega)]
 refine ⟨g, p, q, e0, hg, ?_, ?_, hp, hq, ?_, ?_, ?_, ?_, ?_, ?_, ?_, ?_, ?_, ?_, ?_, ?_, ?_, hsum, ?_⟩
 · rw [ep]; exact Int.mul_tdiv_cancel_left _ (by omega)
 · rw [eq]; exact Int.mul_tdiv_cancel_left _ (by omega)
 all_goals (try unfold small)
 · omega
 · omega
 · omega
 · rw [hpq]; omega
 · rw [hpq]; omega
 · omega
 · omega
 · omega
 · omega
 · omega
 · omega
 · rw [hpq2]; omega
 · rw [hpq2]; omega
 · rw [hpq2, <- hpq]; exact hsum
theorem mul_facts {r s : Rat} (h : ∃ D M : Int, 0 < D /\ D < 9223372036854775808 /\ M < 9223372036854775808 /\ fr D M (r * s)) : ∃ g h : Int, gcdR r.num s.den = g /\ gcdR s.num r.den = h /\ 0 < g /\ 0 < h /\
   (r.num.tdiv g) * (s.num.tdiv h) = (r * s).num /\ ((r.den : Int).tdiv h) * ((s.den : Int).tdiv g) = ((r * s).den : Int) /\ small (r * s).num /\ small (r * s).den := by
 obtain ⟨D, M, hD, hD2, hM, hm⟩ := h
 obtain ⟨a1, a2, a3, a4, a5⟩ := hm.spec hD
 have hr := r.den_pos
 have hs := s.den_pos
 have e1 : gcdR r.num s.den = ((Nat.gcd r.num.natAbs s.den : Nat) : Int) := by rw [gcdR_eq (.inr (by omega))]; try rfl
 have e2 : gcdR s.num r.den = ((Nat.gcd s.num.natAbs r.den : Nat) : Int) := by rw [gcdR_eq (.inr (by omega))]; try rfl
 refine ⟨_, _, e1, e2, by rw [<- e1]; exact gcdR_pos .., by rw [<- e2]; exact gcdR_pos .., ?_, ?_, ?_, ?_⟩
 · conv => rhs; rw [show r * s = Rat.mul r s from rfl]; unfold Rat.mul
   simp only [Int.divExact_eq_tdiv]
 · conv => rhs; rw [show r * s = Rat.mul r s from rfl]; unfold Rat.mul
   simp only [Int.natCast_mul, Nat.divExact_eq_div, Int.natCast_ediv]
   rw [Int.tdiv_eq_ediv_of_nonneg (by omega), Int.tdiv_eq_ediv_of_nonneg (by omega)]
 · unfold small; omega
 · unfold small; omega
end Go.Am.Bern

/- Bern, plain: lists. -/
namespace Go.Am.Bern
theorem getD_lt {α : Type} {l : List α} {n : Nat} {d : α} (h : n < l.length) : l.getD n d = l[n] := by simp [List.getD_eq_getElem?_getD, h]
theorem mem_getD {α : Type} {l : List α} {n : Nat} {d : α} (h : n < l.length) : l.getD n d ∈ l := by rw [getD_lt h]; exact List.getElem_mem h
theorem take_getD {α : Type} {l : List α} {n : Nat} {d : α} (h : n < l.length) : l.take (n + 1) = l.take n ++ [l.getD n d] := by
 rw [getD_lt h]; exact (List.take_append_getElem h).symm
theorem all_take {α : Type} {P : α -> Prop} {l : List α} {n : Nat} {d : α} (h : n < l.length) : (∀ x ∈ l.take (n + 1), P x) ↔ (∀ x ∈ l.take n, P x) /\ P (l.getD n d) := by
 rw [take_getD (d := d) h]
 simp only [List.mem_append, List.mem_singleton]
 constructor
 · intro H; exact ⟨fun x hx => H x (.inl hx), H _ (.inr rfl)⟩
 · intro H x hx
   rcases hx with hx | hx
   · exact H.1 x hx
   · rw [hx]; exact H.2
theorem getD_map {α β : Type} {f : α -> β} {l : List α} {n : Nat} {d : β} {e : α} (h : n < l.length) : (l.map f).getD n d = f (l.getD n e) := by
 rw [getD_lt h, getD_lt (by simpa using h)]; simp
theorem getD_append_left {α : Type} {l m : List α} {n : Nat} {d : α} (h : n < l.length) : (l ++ m).getD n d = l.getD n d := by
 rw [getD_lt h, getD_lt (by simp; omega), List.getElem_append_left h]
theorem drop_getD {α : Type} {l : List α} {n : Nat} {d : α} (h : n < l.length) : l.drop n = l.getD n d :: l.drop (n + 1) := by
 rw [getD_lt h]; exact List.drop_eq_getElem_cons h
theorem ext_getD {α : Type} {l m : List α} {d : α} (hl : l.length = m.length) (h : ∀ n, n < l.length -> l.getD n d = m.getD n d) : l = m := by
 refine List.ext_getElem hl fun n h1 h2 => ?_
 have := h n h1
 rwa [getD_lt h1, getD_lt h2] at this
/-- Folds from the first element on. -/
def fold1 (f : Int -> Int -> Int) (l : List Int) : Int := l.tail.foldl f (l.getD 0 0)
theorem fold1_take {f : Int -> Int -> Int} {l : List Int} {k : Nat} (h1 : 1 <= k) (h : k < l.length) : fold1 f (l.take (k + 1)) = f (fold1 f (l.take k)) (l.getD k 0) := by
 rw [take_getD (d := 0) h]
 cases hl : l.take k with
 | nil =>
   have : (l.take k).length = 0 := by rw [hl]; try rfl
   rw [List.length_take] at this; omega
 | cons a m => simp [fold1, List.foldl_append]
theorem fold1_one {f : Int -> Int -> Int} {l : List Int} (h : 1 <= l.length) : fold1 f (l.take 1) = l.getD 0 0 := by
 cases l with
 | nil => simp at h
 | cons a m => simp [fold1]
end Go.Am.Bern

/- Bern: what all functions share; the reference's fractions. -/
namespace Go.Am.Bern
open Go Go.Am Go.Proofs
def gl : Nat -> Option ((t : Ty) × t.D) := fun g => match g with
 | 0 => some ⟨.s2 (.int .i64) (.int .i64), ((0 : Int), (0 : Int))⟩
 | _ => none
abbrev EL := List (Entry Tryd.prog gl)
noncomputable def X (l : EL) : Cy := mkX Tryd.prog tt gl l 0 (fun _ => none)
theorem X_ok (l : EL) : (X l).Ok := mkX_ok tt_ok l 0 _
noncomputable def Xd (l : EL) (dr : Nat -> Option Nat) : Cy := mkX Tryd.prog tt gl l 0 dr
theorem Xd_ok (l : EL) (dr : Nat -> Option Nat) : (Xd l dr).Ok := mkX_ok tt_ok l 0 dr
def drOf (l : List (Nat × Nat)) (i : Nat) : Option Nat := match l with
 | [] => none
 | p :: l => if Nat.beq p.1 i then some p.2 else drOf l i
/-- The loop under a block. -/
noncomputable def lp (c : Code) (id : Nat) : Code := go c
where go : Code -> Code
 | .seq a b => match go a with
   | .skip => go b
   | c => c
 | .block i (.loop b) => if i = id then b else go b
 | .block _ b => go b
 | .cond _ a b => match go a with
   | .skip => go b
   | c => c
 | _ => .skip
def bodyOf (f : Func) : Code := f.body.getD .skip
theorem of_eq {p q : Prop} (h : p = q) (hq : q) : p := h ▸ hq
def dd (n : Nat) : List AV := List.replicate n .dead
theorem dff {p : Prop} [Decidable p] (h : ¬p) : false = decide p := by simp [h]
theorem dtt {p : Prop} [Decidable p] (h : p) : true = decide p := by simp [h]
theorem ddd {p q : Prop} [Decidable p] [Decidable q] (h : p ↔ q) : decide p = decide q := by simp [h]
abbrev I64 : Ty := .int .i64
abbrev Q2 : Ty := .a2 (.int .i64)
abbrev FR : Ty := .s2 (.int .i64) (.int .i64)
abbrev SI : Ty := .sl (.int .i64)
abbrev SQ : Ty := .sl (.a2 (.int .i64))
abbrev SF : Ty := .sl (.s2 (.int .i64) (.int .i64))
def st85 (p : Int × Int) : St := ⟨.int .i64 p.1 :: .int .i64 p.2 :: dd 13, []⟩
def inv85 (a b : Int) (x : Int × Int) : Prop := Int.gcd x.1 x.2 = Int.gcd a b /\ x.1.natAbs <= max a.natAbs b.natAbs /\ x.2.natAbs <= max a.natAbs b.natAbs
def ex85 (a b : Int) : List (List Nat × Ex) := [([0], ⟨0, Int, fun g => g.natAbs = Int.gcd a b /\ g.natAbs <= max a.natAbs b.natAbs, fun g => ⟨.int .i64 g :: dd 14, []⟩⟩)]
noncomputable def H85 (a b : Int) : Nat -> Option Hint := fun _ => some ⟨chk 0 [0, 1] (inv85 a b) st85, (ex85 a b).map (·.2)⟩
noncomputable def L85 : Code := lp (bodyOf Tryd.f85) 0
theorem loop85 (a b : Int) (R : Exit -> St -> Prop) : LoopOK (X []) L85 ⟨chk 0 [0, 1] (inv85 a b) st85, (ex85 a b).map (·.2)⟩ R := by
 refine loop_ok (X_ok []) (H := fun _ _ => none) [0, 1] (inv85 a b) st85 (fun x => x.2.natAbs) (ex85 a b) 60 fun x hx => ?_
 refine of_eq (q := True /\
 True /\
   (¬x.snd = 0 ->
       True /\
         True /\
           True /\
             x.snd ≠ 0 /\
               True /\
                 True /\
                   ∃ y,
                     (inv85 a b y /\ y.snd.natAbs < x.snd.natAbs) /\
                       (x.snd = y.fst /\ x.fst.tmod x.snd = y.snd /\ True) /\ True) /\
     (¬¬x.snd = 0 -> ∃ y : Int, (Int.natAbs y = a.gcd b /\ Int.natAbs y <= max a.natAbs b.natAbs) /\ (x.fst = y /\ True) /\ True)) (by kernel_rfl) ?_
 simp only [true_and, and_true]
 obtain ⟨h1, h2, h3⟩ := hx
 refine ⟨fun h => ⟨h, (x.2, x.1.tmod x.2), ⟨⟨?_, ?_, ?_⟩, ?_⟩, rfl, rfl⟩, fun h => ⟨x.1, ⟨?_, ?_⟩, rfl⟩⟩
 · rw [<- h1]
   simp only [Int.gcd, Int.natAbs_tmod]
   rw [Nat.gcd_comm x.1.natAbs, Nat.gcd_comm x.2.natAbs, <- Nat.gcd_rec]
 · exact h3
 · simp only [Int.natAbs_tmod]
   have := Nat.mod_le x.1.natAbs x.2.natAbs
   omega
 · simp only [Int.natAbs_tmod]
   exact Nat.mod_lt _ (by omega)
 · have : x.2 = 0 := Classical.not_not.mp h
   rw [this] at h1
   simpa using h1
 · exact h2
theorem call85 (a b : Int) (h : small a /\ small b) : GCall Tryd.prog gl 85 true [.int .i64 a, .int .i64 b] [] [.int .i64 (gcdR a b)] [] := by
 obtain ⟨ha, hb⟩ := h
 unfold small at ha hb
 refine gcall_of (X := X []) (X_ok []) (f := 85) (fn := Tryd.f85) (c := bodyOf Tryd.f85) (by kernel_rfl) (by kernel_rfl) (view := false) (rvs := [.tmp 4]) (by kernel_rfl) (H := H85 a b) 60 (by kernel_rfl) ?_
 refine of_eq (q := True /\
 LoopOK (X []) L85 { J := chk 0 [0, 1] (inv85 a b) st85, exits := List.map (fun x => x.snd) (ex85 a b) } (RetR (X []) true false [ResultVar.tmp 4] [AV.int IntKind.i64 (gcdR a b)] []) /\
   (∃ y, inv85 a b y /\ (a = y.fst /\ b = y.snd /\ True) /\ True) /\
     (∀ (y : Int),
         Int.natAbs y = a.gcd b /\ Int.natAbs y <= max a.natAbs b.natAbs ->
           True /\
             True /\ inR IntKind.i64 (-y) /\ True /\ True /\ True /\ (maxI (maxI y (-y)) 1 = gcdR a b /\ True) /\ True) /\
       True) (by kernel_rfl) ?_
 simp only [true_and, and_true]
 refine ⟨loop85 a b _, ⟨(a, b), ⟨rfl, ?_, ?_⟩, rfl, rfl⟩, fun y hy => ⟨?_, ?_⟩⟩
 · simp only; omega
 · simp only; omega
 · simp only [inR]; omega
 · simp only [gcdR, maxI]; split <;> split <;> omega
def e85 : Entry Tryd.prog gl := entry2 85 ⟨Tryd.f85, by kernel_rfl, by kernel_rfl, by kernel_rfl⟩ (.int .i64) (.int .i64) (fun a b => small a /\ small b) true (fun a b => [.int .i64 (gcdR a b)]) (fun _ _ => []) call85
end Go.Am.Bern

/- Bern: the reference's fractions. -/
namespace Go.Am.Bern
open Go Go.Am Go.Proofs
theorem inR_of_small {a : Int} (h : small a) : inR .i64 a := by unfold small at h; simp only [inR]; omega
theorem small_tdiv {a b : Int} (h : small a) : small (a.tdiv b) := by
 unfold small at *
 rw [Int.natAbs_tdiv]
 exact Nat.lt_of_le_of_lt (Nat.div_le_self ..) h
theorem call46 (a b : Int) (h : small a /\ small b) : GCall Tryd.prog gl 46 true [.int .i64 a, .int .i64 b] [] [ofD (.a2 (.int .i64)) (fracR a b)] [] := by
 refine gcall_of (X := X [e85]) (X_ok [e85]) (f := 46) (fn := Tryd.f46) (c := bodyOf Tryd.f46) (by kernel_rfl) (by kernel_rfl) (view := false) (rvs := [.cell 4 48]) (by kernel_rfl) (H := fun _ => none) 60 (by kernel_rfl) ?_
 refine of_eq (q := True /\ True /\ True /\ ((small a /\ small b) /\ True) /\ True /\ True /\ True /\ (¬gcdR a b = 0 /\ inR .i64 (a.tdiv (gcdR a b))) /\ True /\ True /\ (¬gcdR a b = 0 /\ inR .i64 (b.tdiv (gcdR a b))) /\ True /\ True /\ (True /\ True) /\ ([a.tdiv (gcdR a b), b.tdiv (gcdR a b)] = [(fracR a b).fst, (fracR a b).snd] /\ True) /\ True) (by kernel_rfl) ?_
 simp only [true_and, and_true]
 have hg := gcdR_pos a b
 exact ⟨h, ⟨by omega, inR_of_small (small_tdiv h.1)⟩, ⟨by omega, inR_of_small (small_tdiv h.2)⟩, rfl⟩
def e46 : Entry Tryd.prog gl := entry2 46 ⟨Tryd.f46, by kernel_rfl, by kernel_rfl, by kernel_rfl⟩ (.int .i64) (.int .i64) (fun a b => small a /\ small b) true (fun a b => [ofD (.a2 (.int .i64)) (fracR a b)]) (fun _ _ => []) call46
theorem fracR_small {a b : Int} (h : small a /\ small b) : (¬gcdR a b = 0 /\ inR .i64 (a.tdiv (gcdR a b))) /\ (¬gcdR a b = 0 /\ inR .i64 (b.tdiv (gcdR a b))) := by
 have hg := gcdR_pos a b
 exact ⟨⟨by omega, inR_of_small (small_tdiv h.1)⟩, ⟨by omega, inR_of_small (small_tdiv h.2)⟩⟩
theorem call86 (r s : Rat) (h : addOk r s) : GCall Tryd.prog gl 86 true [ofD (.a2 (.int .i64)) (qp r), ofD (.a2 (.int .i64)) (qp s)] [] [ofD (.a2 (.int .i64)) (qp (r + s))] [] := by
 refine gcall_of (X := X [e85, e46]) (X_ok [e85, e46]) (f := 86) (fn := Tryd.f86) (c := bodyOf Tryd.f86) (by kernel_rfl) (by kernel_rfl) (view := false) (rvs := [.cell 4 48]) (by kernel_rfl) (H := fun _ => none) 60 (by kernel_rfl) ?_
 refine of_eq (q := True /\ True /\ True /\ idxPre (1 : Int) (2 : Nat) /\ True /\ idxPre (1 : Int) (2 : Nat) /\ True /\ ((small (r.den : Int) /\ small (s.den : Int)) /\ True) /\ True /\ idxPre (0 : Int) (2 : Nat) /\ True /\ idxPre (1 : Int) (2 : Nat) /\ True /\ True /\ (¬gcdR (r.den : Int) (s.den : Int) = 0 /\ inR .i64 ((s.den : Int).tdiv (gcdR (r.den : Int) (s.den : Int)))) /\ inR .i64 (r.num * (s.den : Int).tdiv (gcdR (r.den : Int) (s.den : Int))) /\ idxPre (0 : Int) (2 : Nat) /\ True /\ idxPre (1 : Int) (2 : Nat) /\ True /\ True /\ (¬gcdR (r.den : Int) (s.den : Int) = 0 /\ inR .i64 ((r.den : Int).tdiv (gcdR (r.den : Int) (s.den : Int)))) /\ inR .i64 (s.num * (r.den : Int).tdiv (gcdR (r.den : Int) (s.den : Int))) /\ inR .i64 (r.num * (s.den : Int).tdiv (gcdR (r.den : Int) (s.den : Int)) + s.num * (r.den : Int).tdiv (gcdR (r.den : Int) (s.den : Int))) /\ idxPre (1 : Int) (2 : Nat) /\ True /\ True /\ (¬gcdR (r.den : Int) (s.den : Int) = 0 /\ inR .i64 ((r.den : Int).tdiv (gcdR (r.den : Int) (s.den : Int)))) /\ idxPre (1 : Int) (2 : Nat) /\ True /\ inR .i64 ((r.den : Int).tdiv (gcdR (r.den : Int) (s.den : Int)) * (s.den : Int)) /\ (small (r.num * (s.den : Int).tdiv (gcdR (r.den : Int) (s.den : Int)) + s.num * (r.den : Int).tdiv (gcdR (r.den : Int) (s.den : Int))) /\ small ((r.den : Int).tdiv (gcdR (r.den : Int) (s.den : Int)) * (s.den : Int))) /\ True /\ (True /\ True) /\ ([(fracR (r.num * (s.den : Int).tdiv (gcdR (r.den : Int) (s.den : Int)) + s.num * (r.den : Int).tdiv (gcdR (r.den : Int) (s.den : Int))) ((r.den : Int).tdiv (gcdR (r.den : Int) (s.den : Int)) * (s.den : Int))).fst, (fracR (r.num * (s.den : Int).tdiv (gcdR (r.den : Int) (s.den : Int)) + s.num * (r.den : Int).tdiv (gcdR (r.den : Int) (s.den : Int))) ((r.den : Int).tdiv (gcdR (r.den : Int) (s.den : Int)) * (s.den : Int))).snd] = [(r + s).num, (↑(r + s).den : Int)] /\ True) /\ True) (by kernel_rfl) ?_
 simp only [true_and, and_true]
 obtain ⟨g, p, q, e0, hg, ep, eq, hp, hq, h1, h2, h3, h4, h5, h6, h7, h8, h9, h10, h11, h12, h13, hs, hs'⟩ := add_facts h
 rw [e0, ep, eq, fracR_eq h5, hs]
 have i0 : idxPre 0 2 := by unfold idxPre; omega
 have i1 : idxPre 1 2 := by unfold idxPre; omega
 have g0 : ¬ g = 0 := by omega
 exact ⟨i1, i1, ⟨h8, h9⟩, i0, i1, ⟨g0, inR_of_small h7⟩, inR_of_small h1, i0, i1, ⟨g0, inR_of_small h6⟩, inR_of_small h2, inR_of_small h3, i1, ⟨g0, inR_of_small h6⟩, i1, inR_of_small h4, ⟨h3, h4⟩, rfl⟩
def e86 : Entry Tryd.prog gl := entry2 86 ⟨Tryd.f86, by kernel_rfl, by kernel_rfl, by kernel_rfl⟩ (.a2 (.int .i64)) (.a2 (.int .i64)) (fun x y => good x /\ good y /\ addOk (rat x) (rat y)) true (fun x y => [ofD (.a2 (.int .i64)) (qp (rat x + rat y))]) (fun _ _ => [])
 fun x y h => by have := call86 _ _ h.2.2; rwa [h.1, h.2.1] at this
theorem call87 (r s : Rat) (h : mulOk r s) : GCall Tryd.prog gl 87 true [ofD (.a2 (.int .i64)) (qp r), ofD (.a2 (.int .i64)) (qp s)] [] [ofD (.a2 (.int .i64)) (qp (r * s))] [] := by
 refine gcall_of (X := X [e85, e46]) (X_ok [e85, e46]) (f := 87) (fn := Tryd.f87) (c := bodyOf Tryd.f87) (by kernel_rfl) (by kernel_rfl) (view := false) (rvs := [.cell 4 48]) (by kernel_rfl) (H := fun _ => none) 60 (by kernel_rfl) ?_
 refine of_eq (q := True /\ True /\ True /\ idxPre (0 : Int) (2 : Nat) /\ True /\ idxPre (1 : Int) (2 : Nat) /\ True /\ (small r.num /\ small (s.den : Int)) /\ idxPre (0 : Int) (2 : Nat) /\ True /\ idxPre (1 : Int) (2 : Nat) /\ True /\ (small s.num /\ small (r.den : Int)) /\ True /\ True /\ idxPre (0 : Int) (2 : Nat) /\ True /\ True /\ (¬gcdR r.num (s.den : Int) = 0 /\ inR .i64 (r.num.tdiv (gcdR r.num (s.den : Int)))) /\ idxPre (0 : Int) (2 : Nat) /\ True /\ True /\ (¬gcdR s.num (r.den : Int) = 0 /\ inR .i64 (s.num.tdiv (gcdR s.num (r.den : Int)))) /\ inR .i64 (r.num.tdiv (gcdR r.num (s.den : Int)) * s.num.tdiv (gcdR s.num (r.den : Int))) /\ idxPre (1 : Int) (2 : Nat) /\ True /\ True /\ (¬gcdR s.num (r.den : Int) = 0 /\ inR .i64 ((r.den : Int).tdiv (gcdR s.num (r.den : Int)))) /\ idxPre (1 : Int) (2 : Nat) /\ True /\ True /\ (¬gcdR r.num (s.den : Int) = 0 /\ inR .i64 ((s.den : Int).tdiv (gcdR r.num (s.den : Int)))) /\ inR .i64 ((r.den : Int).tdiv (gcdR s.num (r.den : Int)) * (s.den : Int).tdiv (gcdR r.num (s.den : Int))) /\ (small (r.num.tdiv (gcdR r.num (s.den : Int)) * s.num.tdiv (gcdR s.num (r.den : Int))) /\ small ((r.den : Int).tdiv (gcdR s.num (r.den : Int)) * (s.den : Int).tdiv (gcdR r.num (s.den : Int)))) /\ True /\ (True /\ True) /\ ([(fracR (r.num.tdiv (gcdR r.num (s.den : Int)) * s.num.tdiv (gcdR s.num (r.den : Int))) ((r.den : Int).tdiv (gcdR s.num (r.den : Int)) * (s.den : Int).tdiv (gcdR r.num (s.den : Int)))).fst, (fracR (r.num.tdiv (gcdR r.num (s.den : Int)) * s.num.tdiv (gcdR s.num (r.den : Int))) ((r.den : Int).tdiv (gcdR s.num (r.den : Int)) * (s.den : Int).tdiv (gcdR r.num (s.den : Int)))).snd] = [(r * s).num, (↑(r * s).den : Int)] /\ True) /\ True) (by kernel_rfl) ?_
 simp only [true_and, and_true]
 obtain ⟨g, k, e1, e2, hg, hk, h1, h2, h3, h4⟩ := mul_facts h.2.2
 have hd := (r * s).den_pos
 rw [e1, e2, h1, h2, fracR_eq (by omega)]
 have i0 : idxPre 0 2 := by unfold idxPre; omega
 have i1 : idxPre 1 2 := by unfold idxPre; omega
 have g0 : ¬ g = 0 := by omega
 have k0 : ¬ k = 0 := by omega
 refine ⟨i0, i1, ⟨h.1.1, h.2.1.2⟩, i0, i1, ⟨h.2.1.1, h.1.2⟩, i0, ⟨g0, inR_of_small (small_tdiv h.1.1)⟩, i0, ⟨k0, inR_of_small (small_tdiv h.2.1.1)⟩, inR_of_small h3, i1, ⟨k0, inR_of_small (small_tdiv h.1.2)⟩, i1, ⟨g0, inR_of_small (small_tdiv h.2.1.2)⟩, inR_of_small h4, ⟨h3, h4⟩, ?_⟩
 rw [Rat.num_divInt_den]; try rfl
def e87 : Entry Tryd.prog gl := entry2 87 ⟨Tryd.f87, by kernel_rfl, by kernel_rfl, by kernel_rfl⟩ (.a2 (.int .i64)) (.a2 (.int .i64)) (fun x y => good x /\ good y /\ mulOk (rat x) (rat y)) true (fun x y => [ofD (.a2 (.int .i64)) (qp (rat x * rat y))]) (fun _ _ => [])
 fun x y h => by have := call87 _ _ h.2.2; rwa [h.1, h.2.1] at this
end Go.Am.Bern

/- Bern, plain: values of polynomials. -/
namespace Go.Am.Bern
def coefs (l : List Int) : Prop := ∀ x ∈ l, -100 <= x /\ x <= 100
instance (l : List Int) : Decidable (coefs l) := by unfold coefs; infer_instance
def hval (x : Rat) : List Int -> Rat
 | [] => 0
 | a :: l => hval x l * x + (a : Rat)
/-- From 0 to 1, with a small denominator. -/
def part (m : Int) (x : Rat) : Prop := 0 <= x.num /\ x.num <= x.den /\ (x.den : Int) <= m
theorem pow_bound {b : Int} (h : 1 <= b /\ b <= 64) : ∀ k : Nat, 0 < b ^ k /\ b ^ k <= 64 ^ k
 | 0 => by simp
 | k + 1 => by
   have ih := pow_bound h k
   rw [Int.pow_succ, Int.pow_succ]
   exact ⟨Int.mul_pos ih.1 (by omega), Int.mul_le_mul ih.2 h.2 (by omega) (by have := pow_bound (b := 64) (by omega) k; omega)⟩
theorem pow_bound7 {b : Int} (h : 1 <= b /\ b <= 64) {k : Nat} (hk : k <= 7) : 0 < b ^ k /\ b ^ k <= 4398046511104 := by
 refine ⟨(pow_bound h k).1, Int.le_trans (pow_bound h k).2 ?_⟩
 have : (64 : Nat) ^ k <= 64 ^ 7 := Nat.pow_le_pow_right (by omega) hk
 have : ((64 : Nat) ^ k : Nat) <= (4398046511104 : Int) := by omega
 rw [Int.natCast_pow] at this; exact this
theorem fr.zero : fr 1 0 (0 : Rat) := ⟨0, by simp, by omega, by omega⟩
theorem fr.by {D M D' M' : Int} {r : Rat} (h : fr D M r) (hD : D = D') (hM : M = M') : fr D' M' r := by subst hD hM; exact h
theorem fr.mulR {D M b : Int} {r x : Rat} (hr : fr D M r) (hx : 0 <= x.num /\ x.num <= x.den) (hb : (x.den : Int) = b) : fr (D * b) (M * b) (r * x) := by
 have := hr.mul (D' := b) (n := x.num) b ⟨by omega, by omega⟩
 rwa [<- hb, Rat.num_divInt_den, hb] at this
theorem hval_fr {x : Rat} (hx : part 64 x) : ∀ {l : List Int}, coefs l -> fr ((x.den : Int) ^ l.length) (100 * l.length * (x.den : Int) ^ l.length) (hval x l)
 | [], _ => fr.zero.by (by simp) (by simp)
 | a :: l, h => by
   have ih := hval_fr hx (l := l) fun y hy => h y (.tail _ hy)
   have hb := pow_bound (b := x.den) ⟨by have := x.den_pos; omega, hx.2.2⟩ (l.length + 1)
   have h1 := (ih.mulR ⟨hx.1, hx.2.1⟩ rfl)
   have h2 := (fr.cast (h a (.head _))).scale hb.1
   have e : (x.den : Int) ^ l.length * x.den = (x.den : Int) ^ (l.length + 1) := rfl
   rw [e] at h1
   have h3 := h1.add (h2.by (Int.one_mul _) rfl) hb.1
   refine h3.by rfl ?_
   rw [List.length_cons]
   rw [Int.mul_assoc (100 * (l.length : Int)), e, <- Int.add_mul]
   congr 1
theorem hval_ok {x : Rat} (hx : part 64 x) {l : List Int} {a : Int} (h : coefs (a :: l)) (hl : l.length <= 6) : mulOk (hval x l) x /\ addOk (hval x l * x) a := by
 have hb : (1 : Int) <= x.den /\ (x.den : Int) <= 64 := ⟨by have := x.den_pos; omega, hx.2.2⟩
 have h0 := hval_fr hx (l := l) fun y hy => h y (.tail _ hy)
 have p1 := pow_bound7 hb (k := l.length + 1) (by omega)
 have p0 := pow_bound7 hb (k := l.length) (by omega)
 have h1 := (h0.mulR ⟨hx.1, hx.2.1⟩ rfl)
 have h2 := (fr.cast (h a (.head _))).scale p1.1
 have e : (x.den : Int) ^ l.length * x.den = (x.den : Int) ^ (l.length + 1) := rfl
 rw [e] at h1
 have c0 : 100 * (l.length : Int) * (x.den : Int) ^ l.length <= 700 * 4398046511104 := Int.mul_le_mul (by omega) p0.2 (by omega) (by omega)
 have c1 : 100 * (l.length : Int) * (x.den : Int) ^ l.length * x.den <= 700 * 4398046511104 := by
   rw [Int.mul_assoc, e]
   exact Int.mul_le_mul (by omega) p1.2 (by omega) (by omega)
 refine ⟨⟨h0.sq p0.1 (by omega) (by omega), ⟨by unfold small; have := hx; unfold part at this; omega, by unfold small; omega⟩, _, _, p1.1, by omega, ?_, h1⟩, _, _, _, p1.1, by omega, h1, h2.by (Int.one_mul _) rfl, ?_⟩
 · omega
 · omega
end Go.Am.Bern

/- Bern, plain: corners; divisions. -/
namespace Go.Am.Bern
def ch : Nat -> Nat -> Int
 | _, 0 => 1
 | 0, _ + 1 => 0
 | n + 1, k + 1 => ch n k + ch n (k + 1)
theorem ch_facts0 : ∀ n : Fin 7, ∀ k : Fin 7, k.val <= n.val -> 1 <= ch n k /\ ch n k <= 20 /\ ch n k * (60 / ch n k) = 60 /\ 1 <= 60 / ch n k /\ 60 / ch n k <= 60 := by decide
theorem ch_facts {n k : Nat} (hn : n <= 6) (hk : k <= n) : 1 <= ch n k /\ ch n k <= 20 /\ ch n k * (60 / ch n k) = 60 /\ 1 <= 60 / ch n k /\ 60 / ch n k <= 60 := ch_facts0 ⟨n, by omega⟩ ⟨k, by omega⟩ hk
def term (p : List Int) (n i k : Nat) : Rat := Rat.divInt (p.getD k 0 * ch i k) (ch n k)
def wsum (p : List Int) (n i : Nat) : Nat -> Rat
 | 0 => 0
 | k + 1 => wsum p n i k + term p n i k
def whole (p : List Int) : List Rat := (List.range p.length).map fun i => wsum p (p.length - 1) i (i + 1)
theorem whole_length (p : List Int) : (whole p).length = p.length := by simp [whole]
theorem mul_abs {a b A B : Int} (ha : -A <= a /\ a <= A) (hb : -B <= b /\ b <= B) : -(A * B) <= a * b /\ a * b <= A * B := by
 have h : (a * b).natAbs <= A.natAbs * B.natAbs := by rw [Int.natAbs_mul]; exact Nat.mul_le_mul (by omega) (by omega)
 have e : ((A.natAbs * B.natAbs : Nat) : Int) = A * B := by rw [Int.natCast_mul]; congr 1 <;> omega
 omega
theorem coefs_getD {p : List Int} (h : coefs p) (k : Nat) : -100 <= p.getD k 0 /\ p.getD k 0 <= 100 := by
 by_cases hk : k < p.length
 · exact h _ (mem_getD hk)
 · rw [List.getD_eq_getElem?_getD, List.getElem?_eq_none (by omega)]; simp
theorem term_num {p : List Int} (h : coefs p) {i k : Nat} (hi : i <= 6) (hk : k <= i) : -2000 <= p.getD k 0 * ch i k /\ p.getD k 0 * ch i k <= 2000 := by
 have := ch_facts hi hk
 exact mul_abs (A := 100) (B := 20) (coefs_getD h k) (by omega)
theorem term_fr {p : List Int} (h : coefs p) {n i k : Nat} (hn : n <= 6) (hi : i <= n) (hk : k <= i) : fr 60 120000 (term p n i k) := by
 have hc := ch_facts hn (Nat.le_trans hk hi)
 have ht := term_num h (by omega : i <= 6) hk
 refine ⟨p.getD k 0 * ch i k * (60 / ch n k), ?_, ?_⟩
 · unfold term
   generalize 60 / ch n k = q at hc |-
   have e : (60 : Int) = ch n k * q := by omega
   rw [e, Rat.divInt_mul_right (by omega)]
 · have := mul_abs (A := 2000) (B := 60) ht (b := 60 / ch n k) (by omega)
   omega
theorem wsum_fr {p : List Int} (h : coefs p) {n i : Nat} (hn : n <= 6) (hi : i <= n) : ∀ {k : Nat}, k <= i + 1 -> fr 60 (120000 * k) (wsum p n i k)
 | 0, _ => (fr.zero.scale (k := 60) (by omega)).by (by omega) (by omega)
 | k + 1, hk => ((wsum_fr h hn hi (k := k) (by omega)).add (term_fr h hn hi (by omega)) (by omega)).by rfl (by omega)
theorem wsum_ok {p : List Int} (h : coefs p) {n i k : Nat} (hn : n <= 6) (hi : i <= n) (hk : k <= i) : addOk (wsum p n i k) (term p n i k) :=
 ⟨60, _, _, by omega, by omega, wsum_fr h hn hi (by omega), term_fr h hn hi hk, by omega⟩
def frs (D M : Int) (l : List Rat) : Prop := ∀ r ∈ l, fr D M r
def avg (x a b : Rat) : Rat := a * (1 - x) + b * x
def dcs (x : Rat) : List Rat -> List Rat
 | a :: b :: l => avg x a b :: dcs x (b :: l)
 | _ => []
def divL (x : Rat) : Nat -> List Rat -> List Rat
 | 0, _ => []
 | n + 1, l => l.getD 0 0 :: divL x n (dcs x l)
def divR (x : Rat) : Nat -> List Rat -> List Rat -> List Rat
 | 0, _, acc => acc
 | n + 1, l, acc => divR x n (dcs x l) (l.getD (l.length - 1) 0 :: acc)
/-- Both sides. -/
def dvL (x : Rat) (l : List Rat) : List Rat := divL x l.length l
def dvR (x : Rat) (l : List Rat) : List Rat := divR x l.length l []
theorem dcs_length (x : Rat) : ∀ l : List Rat, (dcs x l).length = l.length - 1
 | [] => rfl
 | [_] => rfl
 | a :: b :: l => by simp only [dcs, List.length_cons, dcs_length x (b :: l)]; omega
theorem dcs_getD (x : Rat) : ∀ (l : List Rat) (k : Nat), k + 1 < l.length -> (dcs x l).getD k 0 = avg x (l.getD k 0) (l.getD (k + 1) 0)
 | [], k, h => by simp at h
 | [_], k, h => by simp at h
 | a :: b :: l, 0, _ => rfl
 | a :: b :: l, k + 1, h => by
   have := dcs_getD x (b :: l) k (by simpa using h)
   simpa [dcs] using this
theorem dcs_take (x : Rat) {l : List Rat} {k : Nat} (h : k + 1 < l.length) : (dcs x l).take (k + 1) = (dcs x l).take k ++ [avg x (l.getD k 0) (l.getD (k + 1) 0)] := by
 rw [take_getD (d := 0) (by rw [dcs_length]; omega), dcs_getD x l k h]
theorem divL_length (x : Rat) : ∀ n l, (divL x n l).length = n
 | 0, _ => rfl
 | n + 1, l => by simp [divL, divL_length x n]
theorem divR_length (x : Rat) : ∀ n l acc, (divR x n l acc).length = n + acc.length
 | 0, _, acc => by simp [divR]
 | n + 1, l, acc => by simp only [divR, divR_length x n, List.length_cons]; omega
theorem dvL_length (x : Rat) (l : List Rat) : (dvL x l).length = l.length := divL_length ..
theorem dvR_length (x : Rat) (l : List Rat) : (dvR x l).length = l.length := by simp [dvR, divR_length]
theorem sub_self_num (x : Rat) : qp (1 - x) = ((x.den : Int) - x.num, (x.den : Int)) := by
 have hc : Nat.Coprime ((x.den : Int) - x.num).natAbs x.den := by
   have h := x.reduced
   have : (((x.den : Int) - x.num).natAbs.gcd x.den) ∣ 1 := by
     rw [<- h]
     refine Nat.dvd_gcd ?_ (Nat.gcd_dvd_right ..)
     have h1 : ((((x.den : Int) - x.num).natAbs.gcd x.den : Nat) : Int) ∣ (x.den : Int) - x.num := by
       rw [Int.ofNat_dvd_left]; exact Nat.gcd_dvd_left ..
     have h2 : ((((x.den : Int) - x.num).natAbs.gcd x.den : Nat) : Int) ∣ (x.den : Int) := by
       rw [Int.ofNat_dvd]; exact Nat.gcd_dvd_right ..
     have h3 := Int.dvd_sub h2 h1
     rw [show (x.den : Int) - ((x.den : Int) - x.num) = x.num by omega, Int.ofNat_dvd_left] at h3
     exact h3
   exact Nat.dvd_one.mp this
 have e : (1 - x : Rat) = ⟨(x.den : Int) - x.num, x.den, x.den_nz, hc⟩ := by
   rw [Rat.mk_eq_divInt]
   have h1 : (1 : Rat) = Rat.divInt (x.den : Int) (x.den : Int) := (Rat.divInt_self' (by have := x.den_nz; omega)).symm
   conv => lhs; rw [h1, <- Rat.num_divInt_den x]
   have h0 : (x.den : Int) ≠ 0 := by have := x.den_nz; omega
   rw [Rat.num_divInt_den, <- h1, Rat.sub_eq_add_neg]
   conv => lhs; rw [h1]
   rw [<- Rat.num_divInt_den x, Rat.neg_divInt, Rat.num_divInt_den x, Rat.divInt_add_divInt _ _ h0 h0, <- Int.add_mul, Rat.divInt_mul_right h0]
   congr 1
 rw [e]; try rfl
/-- What a step of a division needs. -/
theorem avg_ok {D M b : Int} {x r s : Rat} (hD : 0 < D) (hb : (x.den : Int) = b) (hx : 0 <= x.num /\ x.num <= x.den) (h1 : D * b < 9223372036854775808) (h2 : M * b < 9223372036854775808) (hr : fr D M r) (hs : fr D M s) :
   mulOk r (1 - x) /\ mulOk s x /\ addOk (r * (1 - x)) (s * x) /\ fr (D * b) (M * b) (avg x r s) := by
 have hb1 : 1 <= b := by have := x.den_pos; omega
 have hM : 0 <= M := by obtain ⟨m, _, g1, g2⟩ := hr; omega
 have hDb : D <= D * b := by have := Int.mul_le_mul_of_nonneg_left hb1 (Int.le_of_lt hD); omega
 have hMb : M <= M * b := by have := Int.mul_le_mul_of_nonneg_left hb1 hM; omega
 have hDb0 : 0 < D * b := by omega
 have hn : (1 - x).num = b - x.num := by have := congrArg Prod.fst (sub_self_num x); simp at this; omega
 have hd : ((1 - x).den : Int) = b := by have := congrArg Prod.snd (sub_self_num x); simp at this; omega
 have e1 : Rat.divInt (b - x.num) b = 1 - x := by rw [<- hn, <- hd, Rat.num_divInt_den]
 have e2 : Rat.divInt x.num b = x := by rw [<- hb, Rat.num_divInt_den]
 have m1 : fr (D * b) (M * (b - x.num)) (r * (1 - x)) := by
   have := hr.mul (D' := b) (n := b - x.num) (b - x.num) ⟨by omega, by omega⟩
   rwa [e1] at this
 have m2 : fr (D * b) (M * x.num) (s * x) := by
   have := hs.mul (D' := b) (n := x.num) x.num ⟨by omega, by omega⟩
   rwa [e2] at this
 have k1 : M * (b - x.num) + M * x.num = M * b := by rw [<- Int.mul_add]; congr 1; omega
 have k2 : 0 <= M * x.num := Int.mul_nonneg hM hx.1
 have k3 : 0 <= M * (b - x.num) := Int.mul_nonneg hM (by omega)
 have hbb : b <= D * b := by have := Int.mul_le_mul_of_nonneg_right (show 1 <= D by omega) (by omega : 0 <= b); omega
 have sx : sq x := ⟨by unfold small; omega, by unfold small; omega⟩
 have sy : sq (1 - x) := ⟨by unfold small; omega, by unfold small; omega⟩
 refine ⟨⟨hr.sq hD (by omega) (by omega), sy, _, _, hDb0, h1, by omega, m1⟩, ⟨hs.sq hD (by omega) (by omega), sx, _, _, hDb0, h1, by omega, m2⟩, ⟨_, _, _, hDb0, h1, m1, m2, by omega⟩, (m1.add m2 hDb0).by rfl k1⟩
/-- What a division needs. -/
structure Dv (D M b : Int) (x : Rat) (l : List Rat) : Prop where
 hD : 0 < D
 hM : 0 <= M
 hb : (x.den : Int) = b
 hx : 0 <= x.num /\ x.num <= x.den
 h1 : D * b ^ 7 < 9223372036854775808
 h2 : M * b ^ 7 < 9223372036854775808
 len : 1 <= l.length /\ l.length <= 7
 row : frs D M l
theorem Dv.b1 {D M b : Int} {x : Rat} {l : List Rat} (h : Dv D M b x l) : 1 <= b := by have := x.den_pos; have := h.hb; omega
theorem pow_mono {b : Int} (hb : 1 <= b) : ∀ {j k : Nat}, j <= k -> 0 < b ^ j /\ b ^ j <= b ^ k
 | j, 0, h => by rw [Nat.le_zero.mp h]; simp
 | j, k + 1, h => by
   by_cases e : j = k + 1
   · subst e; exact ⟨Int.pow_pos (by omega), Int.le_refl _⟩
   · have ih := pow_mono hb (show j <= k by omega)
     refine ⟨ih.1, Int.le_trans ih.2 ?_⟩
     rw [Int.pow_succ]
     have := Int.mul_le_mul_of_nonneg_left hb (Int.le_of_lt (pow_mono hb (Nat.le_refl k)).1)
     omega
theorem Dv.pow {D M b : Int} {x : Rat} {l : List Rat} (h : Dv D M b x l) {j : Nat} (hj : j <= 7) : 0 < D * b ^ j /\ D * b ^ j < 9223372036854775808 /\ M * b ^ j < 9223372036854775808 := by
 have hp := pow_mono h.b1 hj
 have h1 := Int.mul_le_mul_of_nonneg_left hp.2 (Int.le_of_lt h.hD)
 have h2 := Int.mul_le_mul_of_nonneg_left hp.2 h.hM
 have := h.h1; have := h.h2
 exact ⟨Int.mul_pos h.hD hp.1, by omega, by omega⟩
theorem dcs_frs {D M b : Int} {x : Rat} (hD : 0 < D) (hb : (x.den : Int) = b) (hx : 0 <= x.num /\ x.num <= x.den) (h1 : D * b < 9223372036854775808) (h2 : M * b < 9223372036854775808) : ∀ {l : List Rat}, frs D M l -> frs (D * b) (M * b) (dcs x l)
 | [], _ => fun r hr => by simp [dcs] at hr
 | [_], _ => fun r hr => by simp [dcs] at hr
 | a :: c :: l, h => fun r hr => by
   simp only [dcs, List.mem_cons] at hr
   rcases hr with rfl | hr
   · exact (avg_ok hD hb hx h1 h2 (h a (.head _)) (h c (.tail _ (.head _)))).2.2.2
   · exact dcs_frs hD hb hx h1 h2 (l := c :: l) (fun y hy => h y (.tail _ hy)) r hr
/-- Row j of a division. -/
structure Rw (D M b : Int) (x : Rat) (l : List Rat) (row left right : List Rat) : Prop where
 len : row.length <= l.length
 fr : frs (D * b ^ (l.length - row.length)) (M * b ^ (l.length - row.length)) row
 L : left ++ divL x row.length row = dvL x l
 R : divR x row.length row right = dvR x l
theorem Rw.first {D M b : Int} {x : Rat} {l : List Rat} (h : Dv D M b x l) : Rw D M b x l l [] [] :=
 ⟨Nat.le_refl _, by rw [Nat.sub_self]; simpa using h.row, rfl, rfl⟩
theorem Rw.next {D M b : Int} {x : Rat} {l row left right : List Rat} (h : Dv D M b x l) (r : Rw D M b x l row left right) (h0 : 1 <= row.length) : Rw D M b x l (dcs x row) (left ++ [row.getD 0 0]) (row.getD (row.length - 1) 0 :: right) := by
 have hl := dcs_length x row
 have hlen := r.len
 have hn := h.len
 obtain ⟨n, hn'⟩ : ∃ n, row.length = n + 1 := ⟨row.length - 1, by omega⟩
 have hn2 : (dcs x row).length = n := by omega
 have rL := r.L
 have rR := r.R
 rw [hn'] at rL rR
 refine ⟨by omega, ?_, ?_, ?_⟩
 · rw [show l.length - (dcs x row).length = (l.length - row.length) + 1 by omega, Int.pow_succ, <- Int.mul_assoc, <- Int.mul_assoc]
   have p1 := h.pow (j := l.length - row.length) (by omega)
   have p2 := h.pow (j := l.length - row.length + 1) (by omega)
   rw [Int.pow_succ, <- Int.mul_assoc, <- Int.mul_assoc] at p2
   exact dcs_frs p1.1 h.hb h.hx p2.2.1 p2.2.2 r.fr
 · rw [hn2, <- rL]; simp [divL]
 · rw [hn2, <- rR]
   conv => rhs; unfold divR
theorem Rw.avg {D M b : Int} {x : Rat} {l row left right : List Rat} (h : Dv D M b x l) (r : Rw D M b x l row left right) {k : Nat} (hk : k + 1 < row.length) : mulOk (row.getD k 0) (1 - x) /\ mulOk (row.getD (k + 1) 0) x /\ addOk (row.getD k 0 * (1 - x)) (row.getD (k + 1) 0 * x) := by
 have hlen := r.len
 have hn := h.len
 have p1 := h.pow (j := l.length - row.length) (by omega)
 have p2 := h.pow (j := l.length - row.length + 1) (by omega)
 rw [Int.pow_succ, <- Int.mul_assoc, <- Int.mul_assoc] at p2
 have := avg_ok p1.1 h.hb h.hx p2.2.1 p2.2.2 (r.fr _ (mem_getD (d := 0) (show k < row.length by omega))) (r.fr _ (mem_getD (d := 0) hk))
 exact ⟨this.1, this.2.1, this.2.2.1⟩
theorem divL_frs {D M b : Int} {x : Rat} {l : List Rat} (h : Dv D M b x l) : ∀ (n : Nat) (row left right : List Rat), row.length = n -> Rw D M b x l row left right -> frs (D * b ^ 7) (M * b ^ 7) left -> frs (D * b ^ 7) (M * b ^ 7) right -> frs (D * b ^ 7) (M * b ^ 7) (dvL x l) /\ frs (D * b ^ 7) (M * b ^ 7) (dvR x l)
 | 0, row, left, right, hn, r, hl, hr => by
   have r1 := r.L; have r2 := r.R
   rw [hn] at r1 r2
   simp only [divL, List.append_nil] at r1
   simp only [divR] at r2
   rw [<- r1, <- r2]; exact ⟨hl, hr⟩
 | n + 1, row, left, right, hn, r, hl, hr => by
   have up : ∀ y ∈ row, Bern.fr (D * b ^ 7) (M * b ^ 7) y := fun y hy => by
     have h1 := r.fr y hy
     have hj : l.length - row.length <= 7 := by have := h.len; omega
     have hp := (pow_mono h.b1 (Nat.zero_le (7 - (l.length - row.length)))).1
     have h2 := h1.scale (k := b ^ (7 - (l.length - row.length))) (Int.pow_pos (by have := h.b1; omega))
     have e : b ^ (l.length - row.length) * b ^ (7 - (l.length - row.length)) = b ^ 7 := by
       rw [<- Int.pow_add]; congr 1; omega
     rw [Int.mul_assoc, Int.mul_assoc, e] at h2
     exact h2
   refine divL_frs h n _ _ _ (by rw [dcs_length]; omega) (r.next h (by omega)) ?_ ?_
   · intro y hy
     simp only [List.mem_append, List.mem_singleton] at hy
     rcases hy with hy | rfl
     · exact hl y hy
     · exact up _ (mem_getD (by omega))
   · intro y hy
     simp only [List.mem_cons] at hy
     rcases hy with rfl | hy
     · exact up _ (mem_getD (by omega))
     · exact hr y hy
theorem Dv.out {D M b : Int} {x : Rat} {l : List Rat} (h : Dv D M b x l) : frs (D * b ^ 7) (M * b ^ 7) (dvL x l) /\ frs (D * b ^ 7) (M * b ^ 7) (dvR x l) :=
 divL_frs h l.length l [] [] rfl (.first h) (fun y hy => by simp at hy) (fun y hy => by simp at hy)
def half : Rat := ⟨1, 2, by decide, by decide⟩
theorem rat_half : rat (1, 2) = half := rat_qp half
theorem good_half : good (1, 2) := good_qp half
def cnr (p : List Int) : Nat -> Nat -> List Rat
 | 0, _ => whole p
 | d + 1, k => if k % 2 = 0 then dvL half (cnr p d (k / 2)) else dvR half (cnr p d (k / 2))
theorem cnr_length (p : List Int) : ∀ d k, (cnr p d k).length = p.length
 | 0, _ => whole_length p
 | d + 1, k => by unfold cnr; split <;> simp [dvL_length, dvR_length, cnr_length p d]
theorem whole_frs {p : List Int} (h : coefs p) (hl : p.length <= 7) : frs 60 840000 (whole p) := by
 intro r hr
 simp only [whole, List.mem_map, List.mem_range] at hr
 obtain ⟨i, hi, rfl⟩ := hr
 exact (wsum_fr h (n := p.length - 1) (i := i) (by omega) (by omega) (Nat.le_refl _)).mono (by omega)
theorem pow128 : ∀ d : Fin 7, 60 * (2 ^ 7 : Int) ^ d.val * 2 ^ 7 < 9223372036854775808 /\ (d.val <= 5 -> 840000 * (2 ^ 7 : Int) ^ d.val * 2 ^ 7 < 9223372036854775808) /\ 0 < 60 * (2 ^ 7 : Int) ^ d.val /\ 0 <= 840000 * (2 ^ 7 : Int) ^ d.val /\ 840000 * (2 ^ 7 : Int) ^ d.val < 9223372036854775808 := by decide
theorem cnr_dv {p : List Int} (hp : coefs p) (h1 : 1 <= p.length) (hl : p.length <= 7) : ∀ d k, d <= 6 -> frs (60 * (2 ^ 7) ^ d) (840000 * (2 ^ 7) ^ d) (cnr p d k) /\ (d <= 5 -> Dv (60 * (2 ^ 7) ^ d) (840000 * (2 ^ 7) ^ d) 2 half (cnr p d k))
 | 0, k, _ => by
   have := whole_frs hp hl
   refine ⟨by simpa [cnr] using this, fun _ => ⟨by decide, by decide, rfl, ⟨by decide, by decide⟩, by decide, by decide, by rw [cnr_length]; omega, by simpa [cnr] using this⟩⟩
 | d + 1, k, hd => by
   have ih := cnr_dv hp h1 hl d (k / 2) (by omega)
   have hD := (ih.2 (by omega)).out
   have hf : frs (60 * (2 ^ 7) ^ (d + 1)) (840000 * (2 ^ 7) ^ (d + 1)) (cnr p (d + 1) k) := by
     unfold cnr
     rw [Int.pow_succ (2 ^ 7), <- Int.mul_assoc, <- Int.mul_assoc]
     split
     · exact hD.1
     · exact hD.2
   have hb := pow128 ⟨d + 1, by omega⟩
   exact ⟨hf, fun h5 => ⟨hb.2.2.1, hb.2.2.2.1, rfl, ⟨by decide, by decide⟩, hb.1, hb.2.1 h5, by rw [cnr_length]; omega, hf⟩⟩
end Go.Am.Bern

/- Bern: the reference's small functions. -/
namespace Go.Am.Bern
open Go Go.Am Go.Proofs
theorem i02 : idxPre 0 2 := by unfold idxPre; omega
theorem i12 : idxPre 1 2 := by unfold idxPre; omega
theorem idx_nat {i n : Nat} (h : i < n) : idxPre (i : Int) n := by unfold idxPre; omega
def sgn (a : Int) : Int := if 0 < a then 1 else if a < 0 then -1 else 0
theorem call79 (x : Int × Int) (_ : True) : GCall Tryd.prog gl 79 true [ofD Q2 x] [] [.int .i64 (sgn x.1)] [] := by
 refine gcall_of (X := X []) (X_ok []) (f := 79) (fn := Tryd.f79) (c := bodyOf Tryd.f79) (by kernel_rfl) (by kernel_rfl) (view := false) (rvs := [.tmp 2]) (by kernel_rfl) (H := fun _ => none) 80 (by kernel_rfl) ?_
 refine of_eq (q := True /\ True /\ idxPre (0 : Int) (2 : Nat) /\ True /\ True /\ True /\ ((0 : Int) < x.fst -> True /\ True /\ ((1 : Int) = sgn x.fst /\ True) /\ True) /\ (¬(0 : Int) < x.fst -> idxPre (0 : Int) (2 : Nat) /\ True /\ True /\ True /\ (x.fst < 0 -> True /\ True /\ ((-1 : Int) = sgn x.fst /\ True) /\ True) /\ (¬x.fst < 0 -> True /\ True /\ ((0 : Int) = sgn x.fst /\ True) /\ True))) (by kernel_rfl) ?_
 simp only [true_and, and_true]
 unfold sgn
 refine ⟨i02, fun h => by rw [if_pos h], fun h => ⟨i02, fun h1 => by rw [if_neg h, if_pos h1], fun h1 => by rw [if_neg h, if_neg h1]⟩⟩
def e79 : Entry Tryd.prog gl := entry1 79 ⟨Tryd.f79, by kernel_rfl, by kernel_rfl, by kernel_rfl⟩ Q2 (fun _ => True) true (fun x => [.int .i64 (sgn x.1)]) (fun _ => []) (call79)
def isPoly (l : List Int) : Prop := 1 <= l.length /\ l.length <= 7 /\ coefs l
instance (l : List Int) : Decidable (isPoly l) := by unfold isPoly; infer_instance
def isPoint (x : Int × Int) (most : Int) : Prop := 1 <= x.2 /\ x.2 <= most /\ 0 <= x.1 /\ x.1 <= x.2 /\ gcdR x.1 x.2 = 1
instance (x : Int × Int) (most : Int) : Decidable (isPoint x most) := by unfold isPoint; infer_instance
def isPiece (x : Int × Int) : Prop := 0 <= x.1 /\ x.1 <= 6 /\ 0 <= x.2 /\ x.2 < 2 ^ x.1.toNat
instance (x : Int × Int) : Decidable (isPiece x) := by unfold isPiece; infer_instance
theorem call14 (x : Int × Int) (_ : True) : GCall Tryd.prog gl 14 true [ofD Q2 x] [] [.bool (decide (isPiece x))] [] := by
 refine gcall_of (X := X []) (X_ok []) (f := 14) (fn := Tryd.f14) (c := bodyOf Tryd.f14) (by kernel_rfl) (by kernel_rfl) (view := false) (rvs := [.tmp 2]) (by kernel_rfl) (H := fun _ => none) 80 (by kernel_rfl) ?_
 refine of_eq (q := True /\ True /\ idxPre (0 : Int) (2 : Nat) /\ True /\ True /\ True /\ ((0 : Int) <= x.fst -> idxPre (0 : Int) (2 : Nat) /\ True /\ True /\ True /\ True /\ (x.fst <= 6 -> idxPre (1 : Int) (2 : Nat) /\ True /\ True /\ True /\ True /\ ((0 : Int) <= x.snd -> idxPre (1 : Int) (2 : Nat) /\ True /\ idxPre (0 : Int) (2 : Nat) /\ True /\ (((0 : Int) <= x.fst /\ x.fst < bitsOf .i64) /\ (-9223372036854775808 : Int) <= 1 * 2 ^ Int.toNat x.fst /\ (1 : Int) * 2 ^ Int.toNat x.fst <= 9223372036854775807) /\ True /\ True /\ True /\ True /\ (decide (x.snd < 1 * 2 ^ Int.toNat x.fst) = decide (isPiece x) /\ True) /\ True) /\ (¬(0 : Int) <= x.snd -> True /\ True /\ True /\ (false = decide (isPiece x) /\ True) /\ True)) /\ (¬x.fst <= 6 -> True /\ True /\ True /\ True /\ True /\ (false = decide (isPiece x) /\ True) /\ True)) /\ (¬(0 : Int) <= x.fst -> True /\ True /\ True /\ True /\ True /\ True /\ True /\ (false = decide (isPiece x) /\ True) /\ True)) (by kernel_rfl) ?_
 simp only [true_and, and_true]
 unfold isPiece
 rw [Int.one_mul]
 refine ⟨i02, fun h => ⟨i02, fun h1 => ⟨i12, fun h2 => ⟨i12, i02, ⟨⟨h, by simp only [bitsOf]; omega⟩, ?_⟩, ddd (by omega)⟩, fun h2 => dff (by omega)⟩, fun h2 => dff (by omega)⟩, fun h2 => dff (by omega)⟩
 have : (2 : Int) ^ x.1.toNat <= 2 ^ 6 := by
   have := Nat.pow_le_pow_right (show 0 < 2 by omega) (show x.1.toNat <= 6 by omega)
   exact_mod_cast this
 have : (0 : Int) < 2 ^ x.1.toNat := Int.pow_pos (by omega)
 omega
def e14 : Entry Tryd.prog gl := entry1 14 ⟨Tryd.f14, by kernel_rfl, by kernel_rfl, by kernel_rfl⟩ Q2 (fun _ => True) true (fun x => [.bool (decide (isPiece x))]) (fun _ => []) (call14)
theorem ch_step0 : ∀ n : Fin 7, ∀ i : Fin 7, i.val < n.val -> (ch n i * ((n : Int) - (i + 1) + 1)).tdiv ((i : Int) + 1) = ch n (i + 1) /\ -1000 <= ch n i * ((n : Int) - (i + 1) + 1) /\ ch n i * ((n : Int) - (i + 1) + 1) <= 1000 /\ 0 <= ch n (i + 1) /\ ch n (i + 1) <= 20 := by decide
theorem ch_step {n i : Nat} (hn : n <= 6) (h1 : i < n) : (ch n i * ((n : Int) - (i + 1) + 1)).tdiv ((i : Int) + 1) = ch n (i + 1) /\ -1000 <= ch n i * ((n : Int) - (i + 1) + 1) /\ ch n i * ((n : Int) - (i + 1) + 1) <= 1000 /\ 0 <= ch n (i + 1) /\ ch n (i + 1) <= 20 :=
 ch_step0 ⟨n, by omega⟩ ⟨i, by omega⟩ h1
noncomputable def L88_0 : Code := lp (bodyOf Tryd.f88) 0
def st88 (n k : Nat) (i : Nat) : St := ⟨.int .i64 n :: .int .i64 k :: .dead :: .dead :: .dead :: .int .i64 (ch n i) :: .int .i64 (i + 1 : Int) :: dd 14, []⟩
def inv88 (k : Nat) (i : Nat) : Prop := i <= k
def ex88 (n k : Nat) : List (List Nat × Ex) := [([5], ⟨0, Unit, fun _ => True, fun _ => ⟨.dead :: .dead :: .dead :: .dead :: .dead :: .int .i64 (ch n k) :: dd 15, []⟩⟩)]
noncomputable def H88 (n k : Nat) : Nat -> Option Hint := fun _ => some ⟨chk 0 [0, 1, 5, 6] (inv88 k) (st88 n k), (ex88 n k).map (·.2)⟩
theorem loop88 (n k : Nat) (h : k <= n /\ n <= 6) (R : Exit -> St -> Prop) : LoopOK (X []) L88_0 ⟨chk 0 [0, 1, 5, 6] (inv88 k) (st88 n k), (ex88 n k).map (·.2)⟩ R := by
 refine loop_ok (X_ok []) (H := fun _ _ => none) [0, 1, 5, 6] (inv88 k) (st88 n k) (fun i => k - i) (ex88 n k) 80 fun i hi => ?_
 refine of_eq (q := True /\ True /\ True /\ ((i : Int) + 1 <= (k : Int) -> True /\ True /\ True /\ inR .i64 ((n : Int) - ((i : Int) + 1)) /\ inR .i64 ((n : Int) - ((i : Int) + 1) + 1) /\ inR .i64 (ch n i * ((n : Int) - ((i : Int) + 1) + 1)) /\ True /\ (¬(i : Int) + 1 = 0 /\ inR .i64 ((ch n i * ((n : Int) - ((i : Int) + 1) + 1)).tdiv ((i : Int) + 1))) /\ True /\ True /\ inR .i64 ((i : Int) + 1 + 1) /\ True /\ ∃ (y : Nat), (inv88 k y /\ k - y < k - i) /\ ((n : Int) = (n : Int) /\ (k : Int) = (k : Int) /\ (ch n i * ((n : Int) - ((i : Int) + 1) + 1)).tdiv ((i : Int) + 1) = ch n y /\ (i : Int) + 1 + 1 = (y : Int) + 1 /\ True) /\ True) /\ (¬(i : Int) + 1 <= (k : Int) -> ∃ (y : Unit), True /\ (ch n i = ch n k /\ True) /\ True)) (by kernel_rfl) ?_
 simp only [true_and, and_true]
 unfold inv88 at *
 refine ⟨fun h1 => ?_, fun h1 => ⟨(), by rw [show i = k by omega]⟩⟩
 have h2 := ch_step (n := n) (i := i) h.2 (by omega)
 exact ⟨by simp only [inR]; omega, by simp only [inR]; omega, by simp only [inR]; omega, ⟨by omega, by rw [h2.1]; simp only [inR]; omega⟩, by simp only [inR]; omega, i + 1, ⟨by omega, by omega⟩, h2.1, by omega⟩
theorem call88 (n k : Nat) (h : k <= n /\ n <= 6) : GCall Tryd.prog gl 88 true [.int .i64 n, .int .i64 k] [] [.int .i64 (ch n k)] [] := by
 refine gcall_of (X := X []) (X_ok []) (f := 88) (fn := Tryd.f88) (c := bodyOf Tryd.f88) (by kernel_rfl) (by kernel_rfl) (view := false) (rvs := [.tmp 4]) (by kernel_rfl) (H := (H88 n k)) 80 (by kernel_rfl) ?_
 have hL := loop88 n k h
 refine of_eq (q := True /\ True /\ True /\ LoopOK (X []) L88_0 { J := chk (0 : Nat) [(0 : Nat), (1 : Nat), (5 : Nat), (6 : Nat)] (inv88 k) (st88 n k), exits := List.map (fun (x : List Nat × Ex) => x.snd) (ex88 n k) } (RetR (X []) true false [ResultVar.tmp (4 : Tmp)] [AV.int .i64 (ch n k)] []) /\ (∃ (y : Nat), inv88 k y /\ ((n : Int) = (n : Int) /\ (k : Int) = (k : Int) /\ (1 : Int) = ch n y /\ (1 : Int) = (y : Int) + 1 /\ True) /\ True) /\ (∀ (y : Unit), True -> True /\ True /\ True /\ (ch n k = ch n k /\ True) /\ True) /\ True) (by kernel_rfl) ?_
 simp only [true_and, and_true]
 exact ⟨hL _, ⟨0, by simp [inv88], by simp [ch], by simp⟩, fun _ _ => trivial⟩
def e88 : Entry Tryd.prog gl := entry2 88 ⟨Tryd.f88, by kernel_rfl, by kernel_rfl, by kernel_rfl⟩ I64 I64 (fun (n k : Int) => 0 <= k /\ k <= n /\ n <= 6) true (fun n k => [.int .i64 (ch n.toNat k.toNat)]) (fun _ _ => []) (fun (n k : Int) h => by have h : 0 <= k /\ k <= n /\ n <= 6 := h; have := call88 n.toNat k.toNat (by omega); rwa [Int.toNat_of_nonneg h.1, Int.toNat_of_nonneg (by omega)] at this)
def inv50 (p : List Int) (i : Nat) : Prop := i <= p.length
end Go.Am.Bern

/- Bern: the program's fractions. -/
namespace Go.Am.Bern
open Go Go.Am Go.Proofs
def gcdL (l : List Int) : Nat := l.foldl (fun g x => Nat.gcd g x.natAbs) 0
theorem gcdL_take {l : List Int} {k : Nat} (h : k < l.length) : gcdL (l.take (k + 1)) = Nat.gcd (gcdL (l.take k)) (l.getD k 0).natAbs := by
 unfold gcdL; rw [take_getD (d := 0) h, List.foldl_append]; try rfl
def smalls (l : List Int) : Prop := ∀ x ∈ l, small x
theorem gcdL_small {l : List Int} (h : smalls l) : gcdL l < 9223372036854775808 := by
 have : ∀ (m : List Int) (g : Nat), smalls m -> g < 9223372036854775808 -> m.foldl (fun g x => Nat.gcd g x.natAbs) g < 9223372036854775808 := by
   intro m
   induction m with
   | nil => intro g _ h; exact h
   | cons a m ih =>
     intro g hm hg
     refine ih _ (fun x hx => hm x (.tail _ hx)) ?_
     have ha := hm a (.head _)
     unfold small at ha
     by_cases h0 : g = 0
     · subst h0; simpa using ha
     · exact Nat.lt_of_le_of_lt (Nat.gcd_le_left _ (by omega)) hg
 exact this l 0 h (by omega)
noncomputable def L96_0 : Code := lp (bodyOf Tryd.f96) 0
noncomputable def L96_2 : Code := lp (bodyOf Tryd.f96) 2
def st96 (l : List Int) (p : Nat × Int) : St := ⟨.dead :: .dead :: .dead :: .int .i64 p.2 :: .dead :: .dead :: .sl I64 l :: .int .i64 l.length :: .int .i64 p.1 :: dd 14, []⟩
def inv96 (l : List Int) (p : Nat × Int) : Prop := p.1 <= l.length /\ p.2.natAbs = gcdL (l.take p.1)
def ex96 (l : List Int) : List (List Nat × Ex) := [([3], ⟨0, Int, fun g => g.natAbs = gcdL l, fun g => ⟨.dead :: .dead :: .dead :: .int .i64 g :: dd 19, []⟩⟩)]
def sj96 (l : List Int) (k : Nat) (p : Int × Int) : St := ⟨.dead :: .dead :: .dead :: .int .i64 p.1 :: .dead :: .int .i64 p.2 :: .sl I64 l :: .int .i64 l.length :: .int .i64 k :: dd 14, []⟩
def inj96 (l : List Int) (k : Nat) (p : Int × Int) : Prop := Nat.gcd p.1.natAbs p.2.natAbs = gcdL (l.take (k + 1)) /\ small p.1 /\ small p.2
def ej96 (l : List Int) (k : Nat) : List (List Nat × Ex) := [([3, 6, 7, 8], ⟨2, Int, fun g => g.natAbs = gcdL (l.take (k + 1)), fun g => ⟨.dead :: .dead :: .dead :: .int .i64 g :: .dead :: .dead :: .sl I64 l :: .int .i64 l.length :: .int .i64 k :: dd 14, []⟩⟩)]
noncomputable def H96 (l : List Int) (k : Nat) : Nat -> Option Hint
 | 0 => some ⟨chk 0 [3, 6, 7, 8] (inv96 l) (st96 l), (ex96 l).map (·.2)⟩
 | 2 => some ⟨chk 0 [3, 5, 6, 7, 8] (inj96 l k) (sj96 l k), (ej96 l k).map (·.2)⟩
 | _ => none
theorem loop96_2 (l : List Int) (k : Nat) (R : Exit -> St -> Prop) : LoopOK (X []) L96_2 ⟨chk 0 [3, 5, 6, 7, 8] (inj96 l k) (sj96 l k), (ej96 l k).map (·.2)⟩ R := by
 refine loop_ok (X_ok []) (H := fun _ _ => none) [3, 5, 6, 7, 8] (inj96 l k) (sj96 l k) (fun p => p.2.natAbs) (ej96 l k) 80 fun p hp => ?_
 refine of_eq (q := True /\ True /\ (¬p.snd = 0 -> True /\ True /\ True /\ ¬p.snd = 0 /\ True /\ True /\ ∃ (y : Int × Int), (inj96 l k y /\ y.snd.natAbs < p.snd.natAbs) /\ (p.snd = y.fst /\ p.fst.tmod p.snd = y.snd /\ l = l /\ (l.length : Int) = (l.length : Int) /\ (k : Int) = (k : Int) /\ True) /\ True) /\ (¬¬p.snd = 0 -> ∃ (y : Int), y.natAbs = gcdL (List.take (k + 1) l) /\ (p.fst = y /\ l = l /\ (l.length : Int) = (l.length : Int) /\ (k : Int) = (k : Int) /\ True) /\ True)) (by kernel_rfl) ?_
 simp only [true_and, and_true]
 obtain ⟨h1, h2, h3⟩ := hp
 refine ⟨fun h => ⟨h, (p.2, p.1.tmod p.2), ⟨⟨?_, h3, (tmod_small h3).resolve_right h⟩, tmod_lt h⟩, rfl, rfl⟩, fun h => ⟨p.1, ?_, rfl⟩⟩
 · rw [<- h1]; exact gcd_step ..
 · rw [Classical.not_not.mp h] at h1
   simpa using h1
theorem loop96 (l : List Int) (hl : smalls l) (hn : l.length < 1000000) (R : Exit -> St -> Prop) : LoopOK (X []) L96_0 ⟨chk 0 [3, 6, 7, 8] (inv96 l) (st96 l), (ex96 l).map (·.2)⟩ R := by
 refine loop_ok (X_ok []) (H := fun p i => H96 l p.1 i) [3, 6, 7, 8] (inv96 l) (st96 l) (fun p => l.length - p.1) (ex96 l) 80 fun p hp => ?_
 have hL := loop96_2 l p.1
 refine of_eq (q := True /\ ((p.fst : Int) < (l.length : Int) -> idxPre (p.fst : Int) l.length /\ True /\ True /\ LoopOK (X []) L96_2 { J := chk (0 : Nat) [(3 : Nat), (5 : Nat), (6 : Nat), (7 : Nat), (8 : Nat)] (inj96 l p.fst) (sj96 l p.fst), exits := List.map (fun (x : List Nat × Ex) => x.snd) (ej96 l p.fst) } (bodyR (X []).m0 (ex96 l) R) /\ (∃ (y : Int × Int), inj96 l p.fst y /\ (p.snd = y.fst /\ l.getD p.fst (0 : Int) = y.snd /\ l = l /\ (l.length : Int) = (l.length : Int) /\ (p.fst : Int) = (p.fst : Int) /\ True) /\ True) /\ (∀ (y : Int), y.natAbs = gcdL (List.take (p.fst + 1) l) -> inR .i64 ((p.fst : Int) + 1) /\ True /\ ∃ (y_1 : Nat × Int), (inv96 l y_1 /\ l.length - y_1.fst < l.length - p.fst) /\ (y = y_1.snd /\ l = l /\ (l.length : Int) = (l.length : Int) /\ (p.fst : Int) + 1 = (y_1.fst : Int) /\ True) /\ True) /\ True) /\ (¬(p.fst : Int) < (l.length : Int) -> ∃ (y : Int), y.natAbs = gcdL l /\ (p.snd = y /\ True) /\ True)) (by kernel_rfl) ?_
 simp only [true_and, and_true]
 obtain ⟨h1, h2⟩ := hp
 refine ⟨fun h => ?_, fun h => ⟨p.2, by rw [h2, List.take_of_length_le (by omega)], rfl⟩⟩
 have h' : p.1 < l.length := by omega
 have hs : gcdL (l.take p.1) < 9223372036854775808 := gcdL_small fun x hx => hl x (List.mem_of_mem_take hx)
 refine ⟨idx_nat h', hL _, ⟨(p.2, l.getD p.1 0), ⟨?_, by unfold small; omega, hl _ (mem_getD h')⟩, rfl, rfl⟩, fun y hy => ⟨by simp only [inR]; have := hn; omega, (p.1 + 1, y), ⟨⟨by simp only; omega, hy⟩, by simp only; omega⟩, rfl, by simp⟩⟩
 rw [gcdL_take h', h2]
theorem call96 (l : List Int) (h : smalls l /\ l.length < 1000000) : GCall Tryd.prog gl 96 true [.sl I64 l] [] [.int .i64 (gcdL l)] [] := by
 refine gcall_of (X := X []) (X_ok []) (f := 96) (fn := Tryd.f96) (c := bodyOf Tryd.f96) (by kernel_rfl) (by kernel_rfl) (view := false) (rvs := [.tmp 2]) (by kernel_rfl) (H := (H96 l 0)) 80 (by kernel_rfl) ?_
 have hL := loop96 l h.1 h.2
 refine of_eq (q := True /\ True /\ True /\ True /\ True /\ LoopOK (X []) L96_0 { J := chk (0 : Nat) [(3 : Nat), (6 : Nat), (7 : Nat), (8 : Nat)] (inv96 l) (st96 l), exits := List.map (fun (x : List Nat × Ex) => x.snd) (ex96 l) } (RetR (X []) true false [ResultVar.tmp (2 : Tmp)] [AV.int .i64 (↑(gcdL l) : Int)] []) /\ (∃ (y : Nat × Int), inv96 l y /\ ((0 : Int) = y.snd /\ l = l /\ (l.length : Int) = (l.length : Int) /\ (0 : Int) = (y.fst : Int) /\ True) /\ True) /\ (∀ (y : Int), y.natAbs = gcdL l -> True /\ True /\ inR .i64 (-y) /\ True /\ True /\ True /\ (maxI y (-y) = (↑(gcdL l) : Int) /\ True) /\ True) /\ True) (by kernel_rfl) ?_
 simp only [true_and, and_true]
 have hs := gcdL_small h.1
 exact ⟨hL _, ⟨(0, 0), ⟨by simp, rfl⟩, rfl, rfl⟩, fun y hy => ⟨by simp only [inR]; omega, by unfold maxI; split <;> omega⟩⟩
def e96 : Entry Tryd.prog gl := entry1 96 ⟨Tryd.f96, by kernel_rfl, by kernel_rfl, by kernel_rfl⟩ SI (fun l => smalls l /\ l.length < 1000000) true (fun l => [.int .i64 (gcdL l)]) (fun _ => []) (call96)
theorem gcdL_two (a b : Int) (h : b ≠ 0) : (gcdL [a, b] : Int) = gcdR a b := by
 rw [gcdR_eq (.inr h)]
 simp [gcdL, Int.gcd]
theorem call74 (a b : Int) (h : small a /\ small b /\ 0 < b) : GCall Tryd.prog gl 74 true [.int .i64 a, .int .i64 b] [] [ofD FR (fracR a b)] [] := by
 refine gcall_of (X := X [e96]) (X_ok [e96]) (f := 74) (fn := Tryd.f74) (c := bodyOf Tryd.f74) (by kernel_rfl) (by kernel_rfl) (view := false) (rvs := [.cell 4 106]) (by kernel_rfl) (H := fun _ => none) 80 (by kernel_rfl) ?_
 refine of_eq (q := True /\ True /\ True /\ True /\ ((smalls [a, b] /\ [a, b].length < 1000000) /\ True) /\ True /\ True /\ True /\ (b < 0 -> True /\ inR .i64 (-(↑(gcdL [a, b]) : Int)) /\ True /\ True /\ True /\ (¬-(↑(gcdL [a, b]) : Int) = 0 /\ inR .i64 (a.tdiv (-(↑(gcdL [a, b]) : Int)))) /\ True /\ True /\ (¬-(↑(gcdL [a, b]) : Int) = 0 /\ inR .i64 (b.tdiv (-(↑(gcdL [a, b]) : Int)))) /\ True /\ True /\ (True /\ True) /\ ((a.tdiv (-(↑(gcdL [a, b]) : Int)) = (fracR a b).fst /\ b.tdiv (-(↑(gcdL [a, b]) : Int)) = (fracR a b).snd /\ True) /\ True) /\ True) /\ (¬b < 0 -> True /\ True /\ (¬(↑(gcdL [a, b]) : Int) = 0 /\ inR .i64 (a.tdiv (↑(gcdL [a, b]) : Int))) /\ True /\ True /\ (¬(↑(gcdL [a, b]) : Int) = 0 /\ inR .i64 (b.tdiv (↑(gcdL [a, b]) : Int))) /\ True /\ True /\ (True /\ True) /\ ((a.tdiv (↑(gcdL [a, b]) : Int) = (fracR a b).fst /\ b.tdiv (↑(gcdL [a, b]) : Int) = (fracR a b).snd /\ True) /\ True) /\ True)) (by kernel_rfl) ?_
 simp only [true_and, and_true, gcdL_two a b (by omega)]
 have hs := fracR_small ⟨h.1, h.2.1⟩
 refine ⟨⟨fun x hx => ?_, by simp⟩, fun h1 => by omega, fun _ => ⟨hs.1, hs.2, rfl, rfl⟩⟩
 simp only [List.mem_cons, List.not_mem_nil, or_false] at hx
 rcases hx with rfl | rfl
 · exact h.1
 · exact h.2.1
def e74 : Entry Tryd.prog gl := entry2 74 ⟨Tryd.f74, by kernel_rfl, by kernel_rfl, by kernel_rfl⟩ I64 I64 (fun (a b : Int) => small a /\ small b /\ 0 < b) true (fun a b => [ofD FR (fracR a b)]) (fun _ _ => []) (call74)
theorem call82 (r s : Rat) (h : addOk r s) : GCall Tryd.prog gl 82 true [ofD FR (qp r), ofD FR (qp s)] [] [ofD FR (qp (r + s))] [] := by
 refine gcall_of (X := X [e74]) (X_ok [e74]) (f := 82) (fn := Tryd.f82) (c := bodyOf Tryd.f82) (by kernel_rfl) (by kernel_rfl) (view := false) (rvs := [.cell 4 106]) (by kernel_rfl) (H := fun _ => none) 80 (by kernel_rfl) ?_
 refine of_eq (q := True /\ True /\ True /\ True /\ True /\ True /\ True /\ ((small (r.den : Int) /\ small (s.den : Int) /\ (0 : Int) < (s.den : Int)) /\ True) /\ True /\ True /\ True /\ True /\ True /\ True /\ inR .i64 (r.num * (fracR (r.den : Int) (s.den : Int)).snd) /\ True /\ True /\ True /\ True /\ inR .i64 (s.num * (fracR (r.den : Int) (s.den : Int)).fst) /\ inR .i64 (r.num * (fracR (r.den : Int) (s.den : Int)).snd + s.num * (fracR (r.den : Int) (s.den : Int)).fst) /\ True /\ True /\ True /\ True /\ inR .i64 ((r.den : Int) * (fracR (r.den : Int) (s.den : Int)).snd) /\ ((small (r.num * (fracR (r.den : Int) (s.den : Int)).snd + s.num * (fracR (r.den : Int) (s.den : Int)).fst) /\ small ((r.den : Int) * (fracR (r.den : Int) (s.den : Int)).snd) /\ (0 : Int) < (r.den : Int) * (fracR (r.den : Int) (s.den : Int)).snd) /\ True) /\ True /\ (True /\ True) /\ (((fracR (r.num * (fracR (r.den : Int) (s.den : Int)).snd + s.num * (fracR (r.den : Int) (s.den : Int)).fst) ((r.den : Int) * (fracR (r.den : Int) (s.den : Int)).snd)).fst = (r + s).num /\ (fracR (r.num * (fracR (r.den : Int) (s.den : Int)).snd + s.num * (fracR (r.den : Int) (s.den : Int)).fst) ((r.den : Int) * (fracR (r.den : Int) (s.den : Int)).snd)).snd = (↑(r + s).den : Int) /\ True) /\ True) /\ True) (by kernel_rfl) ?_
 simp only [true_and, and_true]
 obtain ⟨g, p, q, e0, hg, ep, eq, hp, hq, h1, h2, h3, h4, h5, h6, h7, h8, h9, h10, h11, h12, h13, hs, hs'⟩ := add_facts h
 have hf : fracR r.den s.den = (p, q) := by unfold fracR; rw [e0, ep, eq]
 have := s.den_pos
 rw [hf]
 simp only
 rw [fracR_eq h13, hs']
 exact ⟨⟨h8, h9, by omega⟩, inR_of_small h1, inR_of_small h2, inR_of_small h3, inR_of_small h12, ⟨h3, h12, h13⟩, rfl, rfl⟩
def e82 : Entry Tryd.prog gl := entry2 82 ⟨Tryd.f82, by kernel_rfl, by kernel_rfl, by kernel_rfl⟩ FR FR (fun x y => good x /\ good y /\ addOk (rat x) (rat y)) true (fun x y => [ofD FR (qp (rat x + rat y))]) (fun _ _ => []) (fun x y h => by have := call82 _ _ h.2.2; rwa [h.1, h.2.1] at this)
theorem call81 (r s : Rat) (h : mulOk r s) : GCall Tryd.prog gl 81 true [ofD FR (qp r), ofD FR (qp s)] [] [ofD FR (qp (r * s))] [] := by
 refine gcall_of (X := (Xd [e74] (drOf [(1, 12)]))) ((Xd_ok _ _)) (f := 81) (fn := Tryd.f81) (c := bodyOf Tryd.f81) (by kernel_rfl) (by kernel_rfl) (view := false) (rvs := [.cell 4 106]) (by kernel_rfl) (H := fun _ => none) 80 (by kernel_rfl) ?_
 refine of_eq (q := True /\ True /\ True /\ True /\ True /\ True /\ True /\ (small r.num /\ small (s.den : Int) /\ (0 : Int) < (s.den : Int)) /\ True /\ True /\ True /\ True /\ (small s.num /\ small (r.den : Int) /\ (0 : Int) < (r.den : Int)) /\ True /\ True /\ True /\ True /\ True /\ True /\ True /\ True /\ inR .i64 ((fracR r.num (s.den : Int)).fst * (fracR s.num (r.den : Int)).fst) /\ True /\ True /\ True /\ True /\ inR .i64 ((fracR r.num (s.den : Int)).snd * (fracR s.num (r.den : Int)).snd) /\ True /\ True /\ (True /\ True) /\ (((fracR r.num (s.den : Int)).fst * (fracR s.num (r.den : Int)).fst = (r * s).num /\ (fracR r.num (s.den : Int)).snd * (fracR s.num (r.den : Int)).snd = (↑(r * s).den : Int) /\ True) /\ True) /\ True) (by kernel_rfl) ?_
 simp only [true_and, and_true]
 obtain ⟨g, k, e1, e2, hg, hk, h1, h2, h3, h4⟩ := mul_facts h.2.2
 have hr := r.den_pos
 have hs := s.den_pos
 have f1 : fracR r.num s.den = (r.num.tdiv g, (s.den : Int).tdiv g) := by unfold fracR; rw [e1]
 have f2 : fracR s.num r.den = (s.num.tdiv k, (r.den : Int).tdiv k) := by unfold fracR; rw [e2]
 rw [f1, f2]
 simp only
 rw [h1, Int.mul_comm ((s.den : Int).tdiv g), h2]
 exact ⟨⟨h.1.1, h.2.1.2, by omega⟩, ⟨h.2.1.1, h.1.2, by omega⟩, inR_of_small h3, inR_of_small h4, rfl, rfl⟩
def e81 : Entry Tryd.prog gl := entry2 81 ⟨Tryd.f81, by kernel_rfl, by kernel_rfl, by kernel_rfl⟩ FR FR (fun x y => good x /\ good y /\ mulOk (rat x) (rat y)) true (fun x y => [ofD FR (qp (rat x * rat y))]) (fun _ _ => []) (fun x y h => by have := call81 _ _ h.2.2; rwa [h.1, h.2.1] at this)
theorem call76 (x : Int × Int) (_ : True) : GCall Tryd.prog gl 76 true [ofD FR x] [] [ofD Q2 x] [] := by
 refine gcall_of (X := X []) (X_ok []) (f := 76) (fn := Tryd.f76) (c := bodyOf Tryd.f76) (by kernel_rfl) (by kernel_rfl) (view := false) (rvs := [.cell 2 48]) (by kernel_rfl) (H := fun _ => none) 80 (by kernel_rfl) ?_
 refine of_eq (q := True /\ True /\ True /\ True /\ True /\ True /\ True /\ True /\ (True /\ True) /\ ([x.fst, x.snd] = [x.fst, x.snd] /\ True) /\ True) (by kernel_rfl) ?_
 simp only [and_true]
def e76 : Entry Tryd.prog gl := entry1 76 ⟨Tryd.f76, by kernel_rfl, by kernel_rfl, by kernel_rfl⟩ FR (fun _ => True) true (fun x => [ofD Q2 x]) (fun _ => []) (call76)
noncomputable def L58_0 : Code := lp (bodyOf Tryd.f58) 0
def sz58 (l : List (Int × Int)) (_ : Unit) : St := ⟨.dead :: .dead :: .dead :: .vv (.slice none 0 0) :: .dead :: .dead :: .sl FR l :: .int .i64 l.length :: .int .i64 0 :: dd 10, []⟩
def st58 (l : List (Int × Int)) (k : Nat) : St := ⟨.dead :: .dead :: .dead :: .own 0 0 :: .dead :: .dead :: .sl FR l :: .int .i64 l.length :: .int .i64 k :: dd 10, [.sc 0 48 Q2 (l.take k)]⟩
def fm58 (l : List (Int × Int)) : List Fam := [⟨Unit, fun _ => True, sz58 l, fun _ => l.length + 1, fun _ _ => none⟩, ⟨Nat, fun k => k <= l.length, st58 l, fun k => l.length - k, fun _ _ => none⟩]
def ex58 (l : List (Int × Int)) : List (List Nat × Ex) := [([3], ⟨0, Unit, fun _ => l = [], fun _ => ⟨.dead :: .dead :: .dead :: .vv (.slice none 0 0) :: dd 15, []⟩⟩), ([3], ⟨0, Unit, fun _ => True, fun _ => ⟨.dead :: .dead :: .dead :: .own 0 0 :: dd 15, [.sc 0 48 Q2 l]⟩⟩)]
noncomputable def H58 (l : List (Int × Int)) : Nat -> Option Hint := fun _ => some ⟨chks 0 [3, 6, 7, 8] (fm58 l), (ex58 l).map (·.2)⟩
theorem loop58 (l : List (Int × Int)) (hl : l.length < 1000000) (R : Exit -> St -> Prop) : LoopOK (X [e76]) L58_0 ⟨chks 0 [3, 6, 7, 8] (fm58 l), (ex58 l).map (·.2)⟩ R := by
 refine loop_fams (X_ok [e76]) [3, 6, 7, 8] (fm58 l) (ex58 l) 80 ⟨fun _ _ => ?_, fun k hk => ?_, trivial⟩
 · refine of_eq (q := True /\ ((0 : Int) < (l.length : Int) -> idxPre (0 : Int) l.length /\ True /\ True /\ True /\ True /\ True /\ (True /\ True) /\ True /\ sumPre (0 : Nat) [((l.getD (0 : Nat) (0, 0)).fst, (l.getD (0 : Nat) (0, 0)).snd)].length (nat_lit 16) /\ True /\ inR .i64 (1 : Int) /\ True /\ ((∃ (y : Unit), (True /\ l.length + 1 < l.length + 1) /\ (False /\ l = l /\ (l.length : Int) = (l.length : Int) /\ (1 : Int) = 0 /\ True) /\ True) ∨ ∃ (y : Nat), (y <= l.length /\ l.length - y < l.length + 1) /\ (True /\ l = l /\ (l.length : Int) = (l.length : Int) /\ (1 : Int) = (y : Int) /\ True) /\ [((l.getD (0 : Nat) (0, 0)).fst, (l.getD (0 : Nat) (0, 0)).snd)] = List.take y l /\ True)) /\ (¬(0 : Int) < (l.length : Int) -> (∃ (y : Unit), l = [] /\ (True /\ True) /\ True) ∨ ∃ (y : Unit), True /\ (False /\ True) /\ False)) (by kernel_rfl) ?_
   simp only [zz]
   refine ⟨fun h => ⟨by unfold idxPre; omega, by unfold sumPre; simp, by simp only [inR]; omega, 1, by omega, by simp, ?_⟩, fun h => List.length_eq_zero_iff.mp (by omega)⟩
   rw [take_getD (d := (0, 0)) (by omega)]; try rfl
 · refine of_eq (q := True /\ ((k : Int) < (l.length : Int) -> idxPre (k : Int) l.length /\ True /\ True /\ True /\ True /\ True /\ (True /\ True) /\ True /\ sumPre (List.take k l).length [((l.getD k (0, 0)).fst, (l.getD k (0, 0)).snd)].length (nat_lit 16) /\ True /\ inR .i64 ((k : Int) + 1) /\ True /\ ((∃ (y : Unit), (True /\ l.length + 1 < l.length - k) /\ (False /\ l = l /\ (l.length : Int) = (l.length : Int) /\ (k : Int) + 1 = 0 /\ True) /\ True) ∨ ∃ (y : Nat), (y <= l.length /\ l.length - y < l.length - k) /\ (True /\ l = l /\ (l.length : Int) = (l.length : Int) /\ (k : Int) + 1 = (y : Int) /\ True) /\ List.take k l ++ [((l.getD k (0, 0)).fst, (l.getD k (0, 0)).snd)] = List.take y l /\ True)) /\ (¬(k : Int) < (l.length : Int) -> (∃ (y : Unit), l = [] /\ (False /\ True) /\ True) ∨ ∃ (y : Unit), True /\ (True /\ True) /\ List.take k l = l /\ True)) (by kernel_rfl) ?_
   simp only [zz]
   refine ⟨fun h => ⟨idx_nat (by omega), by unfold sumPre; simp; omega, by simp only [inR]; omega, k + 1, by omega, by simp, ?_⟩, fun h => List.take_of_length_le (by omega)⟩
   rw [take_getD (d := (0, 0)) (by omega)]; try rfl
theorem call58 (l : List (Int × Int)) (hl : l.length < 1000000) : GCall Tryd.prog gl 58 false [.sl FR l] [] [.sl Q2 l] [] := by
 refine gcall_of (X := X [e76]) (X_ok [e76]) (f := 58) (fn := Tryd.f58) (c := bodyOf Tryd.f58) (by kernel_rfl) (by kernel_rfl) (view := true) (rvs := [.tmp 2]) (by kernel_rfl) (H := (H58 l)) 80 (by kernel_rfl) ?_
 have hL := loop58 l hl
 refine of_eq (q := True /\ True /\ True /\ True /\ True /\ LoopOK (X [e76]) L58_0 { J := chks (0 : Nat) [(3 : Nat), (6 : Nat), (7 : Nat), (8 : Nat)] (fm58 l), exits := List.map (fun (x : List Nat × Ex) => x.snd) (ex58 l) } (RetR (X [e76]) false true [ResultVar.tmp (2 : Tmp)] [AV.sl Q2 l] []) /\ ((∃ (y : Unit), True /\ (True /\ l = l /\ (l.length : Int) = (l.length : Int) /\ (0 : Int) = 0 /\ True) /\ True) ∨ ∃ (y : Nat), y <= l.length /\ (False /\ l = l /\ (l.length : Int) = (l.length : Int) /\ (0 : Int) = (y : Int) /\ True) /\ False) /\ (∀ (y : Unit), l = [] -> True /\ True /\ True /\ (([] : List (Int × Int)) = l /\ True) /\ True) /\ (∀ (y : Unit), True -> True /\ True /\ True /\ (l = l /\ True) /\ True) /\ True) (by kernel_rfl) ?_
 simp only [zz]
 exact ⟨hL _, fun _ h => h.symm, fun _ _ => trivial⟩
def e58 : Entry Tryd.prog gl := entry1 58 ⟨Tryd.f58, by kernel_rfl, by kernel_rfl, by kernel_rfl⟩ SF (fun l => l.length < 1000000) false (fun l => [.sl Q2 l]) (fun _ => []) (call58)
end Go.Am.Bern

/- Bern: the program's small functions. -/
namespace Go.Am.Bern
open Go Go.Am Go.Proofs
noncomputable def L75_0 : Code := lp (bodyOf Tryd.f75) 0
def st75 (p : List Int) (x : Rat) (i : Nat) : St := ⟨.sl I64 p :: .dead :: .dead :: .ptr 0 0 [] :: .ptr 1 0 [] :: .ptr 2 0 [] :: .int .i64 ((i : Int) - 1) :: dd 18, [.bx (ofD FR (qp x)), .bx (ofD FR (0, 0)), .bx (ofD FR (qp (hval x (p.drop i))))]⟩
def ex75 (p : List Int) (x : Rat) : List (List Nat × Ex) := [([4, 5], ⟨0, Unit, fun _ => True, fun _ => ⟨.dead :: .dead :: .dead :: .dead :: .ptr 0 0 [] :: .ptr 1 0 [] :: dd 19, [.bx (ofD FR (0, 0)), .bx (ofD FR (qp (hval x p)))]⟩⟩)]
noncomputable def H75 (p : List Int) (x : Rat) : Nat -> Option Hint := fun _ => some ⟨chk 0 [0, 3, 4, 5, 6] (inv50 p) (st75 p x), (ex75 p x).map (·.2)⟩
theorem loop75 (p : List Int) (x : Rat) (hx : part 64 x) (hp : coefs p) (hl : p.length <= 7) (R : Exit -> St -> Prop) : LoopOK (X [e82, e81]) L75_0 ⟨chk 0 [0, 3, 4, 5, 6] (inv50 p) (st75 p x), (ex75 p x).map (·.2)⟩ R := by
 refine loop_ok (X_ok [e82, e81]) (H := fun _ _ => none) [0, 3, 4, 5, 6] (inv50 p) (st75 p x) (fun i => i) (ex75 p x) 80 fun i hi => ?_
 refine of_eq (q := True /\ True /\ ((0 : Int) <= (i : Int) - 1 -> True /\ True /\ (good ((hval x (List.drop i p)).num, (↑(hval x (List.drop i p)).den : Int)) /\ good (x.num, (x.den : Int)) /\ mulOk (rat ((hval x (List.drop i p)).num, (↑(hval x (List.drop i p)).den : Int))) (rat (x.num, (x.den : Int)))) /\ True /\ True /\ idxPre ((i : Int) - 1) p.length /\ True /\ True /\ (good ((rat ((hval x (List.drop i p)).num, (↑(hval x (List.drop i p)).den : Int)) * rat (x.num, (x.den : Int))).num, (↑(rat ((hval x (List.drop i p)).num, (↑(hval x (List.drop i p)).den : Int)) * rat (x.num, (x.den : Int))).den : Int)) /\ good (p.getD ((i : Int) - 1).toNat (0 : Int), (1 : Int)) /\ addOk (rat ((rat ((hval x (List.drop i p)).num, (↑(hval x (List.drop i p)).den : Int)) * rat (x.num, (x.den : Int))).num, (↑(rat ((hval x (List.drop i p)).num, (↑(hval x (List.drop i p)).den : Int)) * rat (x.num, (x.den : Int))).den : Int))) (rat (p.getD ((i : Int) - 1).toNat (0 : Int), (1 : Int)))) /\ True /\ True /\ inR .i64 ((i : Int) - 1 - 1) /\ True /\ ∃ (y : Nat), (inv50 p y /\ y < i) /\ (p = p /\ True /\ True /\ True /\ (i : Int) - 1 - 1 = (y : Int) - 1 /\ True) /\ (x.num = x.num /\ (x.den : Int) = (x.den : Int) /\ True) /\ ((0 : Int) = 0 /\ (0 : Int) = 0 /\ True) /\ ((rat ((rat ((hval x (List.drop i p)).num, (↑(hval x (List.drop i p)).den : Int)) * rat (x.num, (x.den : Int))).num, (↑(rat ((hval x (List.drop i p)).num, (↑(hval x (List.drop i p)).den : Int)) * rat (x.num, (x.den : Int))).den : Int)) + rat (p.getD ((i : Int) - 1).toNat (0 : Int), (1 : Int))).num = (hval x (List.drop y p)).num /\ (↑(rat ((rat ((hval x (List.drop i p)).num, (↑(hval x (List.drop i p)).den : Int)) * rat (x.num, (x.den : Int))).num, (↑(rat ((hval x (List.drop i p)).num, (↑(hval x (List.drop i p)).den : Int)) * rat (x.num, (x.den : Int))).den : Int)) + rat (p.getD ((i : Int) - 1).toNat (0 : Int), (1 : Int))).den : Int) = (↑(hval x (List.drop y p)).den : Int) /\ True) /\ True) /\ (¬(0 : Int) <= (i : Int) - 1 -> ∃ (y : Unit), True /\ (True /\ True /\ True) /\ ((0 : Int) = 0 /\ (0 : Int) = 0 /\ True) /\ ((hval x (List.drop i p)).num = (hval x p).num /\ (↑(hval x (List.drop i p)).den : Int) = (↑(hval x p).den : Int) /\ True) /\ True)) (by kernel_rfl) ?_
 simp only [zz]
 unfold inv50 at *
 refine ⟨fun h1 => ?_, fun h1 => ⟨by rw [show i = 0 by omega]; rfl, by rw [show i = 0 by omega]; rfl⟩⟩
 obtain ⟨i, rfl⟩ : ∃ j, i = j + 1 := ⟨i - 1, by omega⟩
 have e : (((i + 1 : Nat) : Int) - 1) = (i : Int) := by omega
 rw [e]
 simp only [Int.toNat_natCast]
 have hd : p.drop i = p.getD i 0 :: p.drop (i + 1) := drop_getD (by omega)
 have hc : coefs (p.getD i 0 :: p.drop (i + 1)) := by rw [<- hd]; exact fun y hy => hp y (List.mem_of_mem_drop hy)
 have hk := hval_ok hx hc (by simp; omega)
 refine ⟨⟨good_nd _, good_nd _, hk.1⟩, idx_nat (by omega), ⟨good_nd _, good_int _, hk.2⟩, by simp only [inR]; omega, i, ⟨by omega, by omega⟩, ?_⟩
 rw [hd]; exact ⟨rfl, rfl, rfl⟩
theorem call75 (p : List Int) (x : Rat) (h : isPoly p /\ part 64 x) : GCall Tryd.prog gl 75 true [.sl I64 p, ofD FR (qp x)] [] [ofD FR (qp (hval x p))] [] := by
 refine gcall_of (X := X [e82,e81]) (X_ok [e82,e81]) (f := 75) (fn := Tryd.f75) (c := bodyOf Tryd.f75) (by kernel_rfl) (by kernel_rfl) (view := false) (rvs := [.cell 4 106]) (by kernel_rfl) (H := (H75 p x)) 80 (by kernel_rfl) ?_
 have hL := loop75 p x h.2 h.1.2.2 h.1.2.1
 refine of_eq (q := True /\ True /\ True /\ True /\ True /\ True /\ True /\ inR .i64 ((p.length : Int) - 1) /\ True /\ LoopOK (X [e82, e81]) L75_0 { J := chk (0 : Nat) [(0 : Nat), (3 : Nat), (4 : Nat), (5 : Nat), (6 : Nat)] (inv50 p) (st75 p x), exits := List.map (fun (x : List Nat × Ex) => x.snd) (ex75 p x) } (RetR (X [e82, e81]) true false [ResultVar.cell (4 : Tmp) (106 : TypeId)] [ofD FR (qp (hval x p))] []) /\ (∃ (y : Nat), inv50 p y /\ (p = p /\ True /\ True /\ True /\ (p.length : Int) - 1 = (y : Int) - 1 /\ True) /\ (x.num = x.num /\ (x.den : Int) = (x.den : Int) /\ True) /\ ((0 : Int) = 0 /\ (0 : Int) = 0 /\ True) /\ ((0 : Int) = (hval x (List.drop y p)).num /\ (1 : Int) = (↑(hval x (List.drop y p)).den : Int) /\ True) /\ True) /\ (∀ (y : Unit), True -> True /\ True /\ (True /\ True) /\ (((hval x p).num = (hval x p).num /\ (↑(hval x p).den : Int) = (↑(hval x p).den : Int) /\ True) /\ True) /\ True) /\ True) (by kernel_rfl) ?_
 simp only [zz]
 have := h.1.2.1
 exact ⟨by simp only [inR]; omega, hL _, ⟨p.length, Nat.le_refl _, by simp [hval], by simp [hval]⟩, fun _ _ => trivial⟩
def e75 : Entry Tryd.prog gl := entry2 75 ⟨Tryd.f75, by kernel_rfl, by kernel_rfl, by kernel_rfl⟩ SI FR (fun p x => isPoly p /\ good x /\ part 64 (rat x)) true (fun p x => [ofD FR (qp (hval (rat x) p))]) (fun _ _ => []) (fun p x h => by have := call75 p (rat x) ⟨h.1, h.2.2⟩; rwa [h.2.1] at this)
def minL (l : List Int) : Int := fold1 minI l
def maxL (l : List Int) : Int := fold1 maxI l
noncomputable def L89_0 : Code := lp (bodyOf Tryd.f89) 0
noncomputable def L90_0 : Code := lp (bodyOf Tryd.f90) 0
def st89 (l : List Int) (k : Nat) : St := ⟨.sl I64 l :: .dead :: .dead :: .int .i64 (minL (l.take k)) :: .int .i64 k :: dd 20, []⟩
def inv89 (l : List Int) (k : Nat) : Prop := 1 <= k /\ k <= l.length
def ex89 (m : Int) : List (List Nat × Ex) := [([3], ⟨0, Unit, fun _ => True, fun _ => ⟨.dead :: .dead :: .dead :: .int .i64 m :: dd 21, []⟩⟩)]
noncomputable def H89 (l : List Int) : Nat -> Option Hint := fun _ => some ⟨chk 0 [0, 3, 4] (inv89 l) (st89 l), (ex89 (minL l)).map (·.2)⟩
theorem loop89 (l : List Int) (hl : l.length < 1000000) (R : Exit -> St -> Prop) : LoopOK (X []) L89_0 ⟨chk 0 [0, 3, 4] (inv89 l) (st89 l), (ex89 (minL l)).map (·.2)⟩ R := by
 refine loop_ok (X_ok []) (H := fun _ _ => none) [0, 3, 4] (inv89 l) (st89 l) (fun k => l.length - k) (ex89 (minL l)) 80 fun k hk => ?_
 refine of_eq (q := True /\ True /\ True /\ True /\ ((k : Int) < (l.length : Int) -> True /\ True /\ True /\ idxPre (k : Int) l.length /\ True /\ True /\ True /\ True /\ inR .i64 ((k : Int) + 1) /\ True /\ ∃ (y : Nat), (inv89 l y /\ l.length - y < l.length - k) /\ (l = l /\ minI (minL (List.take k l)) (l.getD k (0 : Int)) = minL (List.take y l) /\ (k : Int) + 1 = (y : Int) /\ True) /\ True) /\ (¬(k : Int) < (l.length : Int) -> ∃ (y : Unit), True /\ (minL (List.take k l) = minL l /\ True) /\ True)) (by kernel_rfl) ?_
 simp only [zz]
 unfold inv89 at *
 refine ⟨fun h => ⟨idx_nat (by omega), by simp only [inR]; omega, k + 1, by omega, ?_, by simp⟩, fun h => by rw [List.take_of_length_le (by omega)]⟩
 unfold minL; rw [fold1_take hk.1 (by omega)]
theorem call89 (l : List Int) (h : 1 <= l.length /\ l.length < 1000000) : GCall Tryd.prog gl 89 true [.sl I64 l] [] [.int .i64 (minL l)] [] := by
 refine gcall_of (X := X []) (X_ok []) (f := 89) (fn := Tryd.f89) (c := bodyOf Tryd.f89) (by kernel_rfl) (by kernel_rfl) (view := false) (rvs := [.tmp 2]) (by kernel_rfl) (H := (H89 l)) 80 (by kernel_rfl) ?_
 have hL := loop89 l h.2
 refine of_eq (q := True /\ True /\ True /\ True /\ ((l.length : Int) < 1 -> False) /\ (¬(l.length : Int) < 1 -> True /\ idxPre (0 : Int) l.length /\ True /\ True /\ True /\ LoopOK (X []) L89_0 { J := chk (0 : Nat) [(0 : Nat), (3 : Nat), (4 : Nat)] (inv89 l) (st89 l), exits := List.map (fun (x : List Nat × Ex) => x.snd) (ex89 (minL l)) } (RetR (X []) true false [ResultVar.tmp (2 : Tmp)] [AV.int .i64 (minL l)] []) /\ (∃ (y : Nat), inv89 l y /\ (l = l /\ l.getD (0 : Nat) (0 : Int) = minL (List.take y l) /\ (1 : Int) = (y : Int) /\ True) /\ True) /\ (∀ (y : Unit), True -> True /\ True /\ True /\ (minL l = minL l /\ True) /\ True) /\ True)) (by kernel_rfl) ?_
 simp only [zz]
 exact ⟨fun h1 => by omega, fun _ => ⟨by unfold idxPre; omega, hL _, ⟨1, ⟨by omega, h.1⟩, by unfold minL; rw [fold1_one h.1], rfl⟩, fun _ _ => trivial⟩⟩
def e89 : Entry Tryd.prog gl := entry1 89 ⟨Tryd.f89, by kernel_rfl, by kernel_rfl, by kernel_rfl⟩ SI (fun l => 1 <= l.length /\ l.length < 1000000) true (fun l => [.int .i64 (minL l)]) (fun _ => []) (call89)
def st90 (l : List Int) (k : Nat) : St := ⟨.sl I64 l :: .dead :: .dead :: .int .i64 (maxL (l.take k)) :: .int .i64 k :: dd 20, []⟩
def inv90 (l : List Int) (k : Nat) : Prop := 1 <= k /\ k <= l.length
def ex90 (m : Int) : List (List Nat × Ex) := [([3], ⟨0, Unit, fun _ => True, fun _ => ⟨.dead :: .dead :: .dead :: .int .i64 m :: dd 21, []⟩⟩)]
noncomputable def H90 (l : List Int) : Nat -> Option Hint := fun _ => some ⟨chk 0 [0, 3, 4] (inv90 l) (st90 l), (ex90 (maxL l)).map (·.2)⟩
theorem loop90 (l : List Int) (hl : l.length < 1000000) (R : Exit -> St -> Prop) : LoopOK (X []) L90_0 ⟨chk 0 [0, 3, 4] (inv90 l) (st90 l), (ex90 (maxL l)).map (·.2)⟩ R := by
 refine loop_ok (X_ok []) (H := fun _ _ => none) [0, 3, 4] (inv90 l) (st90 l) (fun k => l.length - k) (ex90 (maxL l)) 80 fun k hk => ?_
 refine of_eq (q := True /\ True /\ True /\ True /\ ((k : Int) < (l.length : Int) -> True /\ True /\ True /\ idxPre (k : Int) l.length /\ True /\ True /\ True /\ True /\ inR .i64 ((k : Int) + 1) /\ True /\ ∃ (y : Nat), (inv90 l y /\ l.length - y < l.length - k) /\ (l = l /\ maxI (maxL (List.take k l)) (l.getD k (0 : Int)) = maxL (List.take y l) /\ (k : Int) + 1 = (y : Int) /\ True) /\ True) /\ (¬(k : Int) < (l.length : Int) -> ∃ (y : Unit), True /\ (maxL (List.take k l) = maxL l /\ True) /\ True)) (by kernel_rfl) ?_
 simp only [zz]
 unfold inv90 at *
 refine ⟨fun h => ⟨idx_nat (by omega), by simp only [inR]; omega, k + 1, by omega, ?_, by simp⟩, fun h => by rw [List.take_of_length_le (by omega)]⟩
 unfold maxL; rw [fold1_take hk.1 (by omega)]
theorem call90 (l : List Int) (h : 1 <= l.length /\ l.length < 1000000) : GCall Tryd.prog gl 90 true [.sl I64 l] [] [.int .i64 (maxL l)] [] := by
 refine gcall_of (X := X []) (X_ok []) (f := 90) (fn := Tryd.f90) (c := bodyOf Tryd.f90) (by kernel_rfl) (by kernel_rfl) (view := false) (rvs := [.tmp 2]) (by kernel_rfl) (H := (H90 l)) 80 (by kernel_rfl) ?_
 have hL := loop90 l h.2
 refine of_eq (q := True /\ True /\ True /\ True /\ ((l.length : Int) < 1 -> False) /\ (¬(l.length : Int) < 1 -> True /\ idxPre (0 : Int) l.length /\ True /\ True /\ True /\ LoopOK (X []) L90_0 { J := chk (0 : Nat) [(0 : Nat), (3 : Nat), (4 : Nat)] (inv90 l) (st90 l), exits := List.map (fun (x : List Nat × Ex) => x.snd) (ex90 (maxL l)) } (RetR (X []) true false [ResultVar.tmp (2 : Tmp)] [AV.int .i64 (maxL l)] []) /\ (∃ (y : Nat), inv90 l y /\ (l = l /\ l.getD (0 : Nat) (0 : Int) = maxL (List.take y l) /\ (1 : Int) = (y : Int) /\ True) /\ True) /\ (∀ (y : Unit), True -> True /\ True /\ True /\ (maxL l = maxL l /\ True) /\ True) /\ True)) (by kernel_rfl) ?_
 simp only [zz]
 exact ⟨fun h1 => by omega, fun _ => ⟨by unfold idxPre; omega, hL _, ⟨1, ⟨by omega, h.1⟩, by unfold maxL; rw [fold1_one h.1], rfl⟩, fun _ _ => trivial⟩⟩
def e90 : Entry Tryd.prog gl := entry1 90 ⟨Tryd.f90, by kernel_rfl, by kernel_rfl, by kernel_rfl⟩ SI (fun l => 1 <= l.length /\ l.length < 1000000) true (fun l => [.int .i64 (maxL l)]) (fun _ => []) (call90)
theorem foldl_min {l : List Int} : ∀ {a : Int}, -100 <= l.foldl minI a ↔ -100 <= a /\ ∀ x ∈ l, -100 <= x := by
 induction l with
 | nil => simp
 | cons b l ih =>
   intro a
   rw [List.foldl_cons, ih]
   simp only [List.mem_cons, forall_eq_or_imp, <- and_assoc]
   refine and_congr_left fun _ => ?_
   unfold minI; split <;> omega
theorem foldl_max {l : List Int} : ∀ {a : Int}, l.foldl maxI a <= 100 ↔ a <= 100 /\ ∀ x ∈ l, x <= 100 := by
 induction l with
 | nil => simp
 | cons b l ih =>
   intro a
   rw [List.foldl_cons, ih]
   simp only [List.mem_cons, forall_eq_or_imp, <- and_assoc]
   refine and_congr_left fun _ => ?_
   unfold maxI; split <;> omega
theorem coefs_iff {l : List Int} (h : 1 <= l.length) : coefs l ↔ -100 <= minL l /\ maxL l <= 100 := by
 cases l with
 | nil => simp at h
 | cons a m =>
   simp only [minL, maxL, fold1, List.tail_cons, List.getD_cons_zero, foldl_min, foldl_max, coefs, List.mem_cons, forall_eq_or_imp]
   constructor
   · intro ⟨⟨h1, h2⟩, h3⟩; exact ⟨⟨h1, fun x hx => (h3 x hx).1⟩, h2, fun x hx => (h3 x hx).2⟩
   · intro ⟨⟨h1, h2⟩, h3, h4⟩; exact ⟨⟨h1, h3⟩, fun x hx => ⟨h2 x hx, h4 x hx⟩⟩
def errOf (p : List Int) : Int := if isPoly p then 0 else 80
theorem call56 (l : List Int) (h : l.length < 1000000) : GCall Tryd.prog gl 56 true [.sl I64 l] [] [.int .i64 (errOf l)] [] := by
 refine gcall_of (X := X [e89, e90]) (X_ok [e89, e90]) (f := 56) (fn := Tryd.f56) (c := bodyOf Tryd.f56) (by kernel_rfl) (by kernel_rfl) (view := false) (rvs := [.tmp 2]) (by kernel_rfl) (H := fun _ => none) 80 (by kernel_rfl) ?_
 refine of_eq (q := True /\ True /\ True /\ True /\ True /\ ((l.length : Int) < 1 -> True /\ True /\ True /\ True /\ True /\ True /\ True /\ ((80 : Int) = errOf l /\ True) /\ True) /\ (¬(l.length : Int) < 1 -> True /\ True /\ True /\ True /\ True /\ ((7 : Int) < (l.length : Int) -> True /\ True /\ True /\ True /\ True /\ ((80 : Int) = errOf l /\ True) /\ True) /\ (¬(7 : Int) < (l.length : Int) -> True /\ (((1 : Nat) <= l.length /\ l.length < 1000000) /\ True) /\ True /\ True /\ True /\ (minL l < (-100 : Int) -> True /\ True /\ True /\ ((80 : Int) = errOf l /\ True) /\ True) /\ (¬minL l < (-100 : Int) -> True /\ (((1 : Nat) <= l.length /\ l.length < 1000000) /\ True) /\ True /\ True /\ ((100 : Int) < maxL l -> True /\ True /\ ((80 : Int) = errOf l /\ True) /\ True) /\ (¬(100 : Int) < maxL l -> True /\ True /\ ((0 : Int) = errOf l /\ True) /\ True))))) (by kernel_rfl) ?_
 simp only [zz]
 have e0 : isPoly l -> errOf l = 0 := fun h => by unfold errOf; rw [if_pos h]
 have e1 : ¬ isPoly l -> errOf l = 80 := fun h => by unfold errOf; rw [if_neg h]
 refine ⟨fun h1 => (e1 fun h2 => ?_).symm, fun h1 => ⟨fun h2 => (e1 fun h3 => ?_).symm, fun h2 => ⟨⟨by omega, h⟩, fun h3 => (e1 fun h4 => ?_).symm, fun h3 => ⟨⟨by omega, h⟩, fun h4 => (e1 fun h5 => ?_).symm, fun h4 => (e0 ⟨by omega, by omega, ?_⟩).symm⟩⟩⟩⟩
 · have := h2.1; omega
 · have := h3.2.1; omega
 · have := (coefs_iff h4.1).mp h4.2.2; omega
 · have := (coefs_iff h5.1).mp h5.2.2; omega
 · rw [coefs_iff (by omega)]; omega
def e56 : Entry Tryd.prog gl := entry1 56 ⟨Tryd.f56, by kernel_rfl, by kernel_rfl, by kernel_rfl⟩ SI (fun l => l.length < 1000000) true (fun l => [.int .i64 (errOf l)]) (fun _ => []) (call56)
theorem call84 (x : Int × Int) (most : Int) (h : most < 1000000) : GCall Tryd.prog gl 84 true [ofD Q2 x, .int .i64 most] [] [.bool (decide (isPoint x most))] [] := by
 refine gcall_of (X := X [e96]) (X_ok [e96]) (f := 84) (fn := Tryd.f84) (c := bodyOf Tryd.f84) (by kernel_rfl) (by kernel_rfl) (view := false) (rvs := [.tmp 4]) (by kernel_rfl) (H := fun _ => none) 80 (by kernel_rfl) ?_
 refine of_eq (q := True /\ True /\ idxPre (1 : Int) (2 : Nat) /\ True /\ True /\ True /\ ((1 : Int) <= x.snd -> idxPre (1 : Int) (2 : Nat) /\ True /\ True /\ True /\ True /\ True /\ (x.snd <= most -> idxPre (0 : Int) (2 : Nat) /\ True /\ True /\ True /\ True /\ ((0 : Int) <= x.fst -> idxPre (0 : Int) (2 : Nat) /\ True /\ idxPre (1 : Int) (2 : Nat) /\ True /\ True /\ True /\ True /\ (x.fst <= x.snd -> idxPre (0 : Int) (2 : Nat) /\ True /\ idxPre (1 : Int) (2 : Nat) /\ True /\ True /\ ((smalls [x.fst, x.snd] /\ [x.fst, x.snd].length < 1000000) /\ True) /\ True /\ True /\ True /\ True /\ (decide ((↑(gcdL [x.fst, x.snd]) : Int) = 1) = decide (isPoint x most) /\ True) /\ True) /\ (¬x.fst <= x.snd -> True /\ True /\ True /\ (false = decide (isPoint x most) /\ True) /\ True)) /\ (¬(0 : Int) <= x.fst -> True /\ True /\ True /\ True /\ True /\ (false = decide (isPoint x most) /\ True) /\ True)) /\ (¬x.snd <= most -> True /\ True /\ True /\ True /\ True /\ True /\ True /\ (false = decide (isPoint x most) /\ True) /\ True)) /\ (¬(1 : Int) <= x.snd -> True /\ True /\ True /\ True /\ True /\ True /\ True /\ True /\ True /\ (false = decide (isPoint x most) /\ True) /\ True)) (by kernel_rfl) ?_
 simp only [zz]
 unfold isPoint
 refine ⟨i12, fun h => ⟨i12, fun h1 => ⟨i02, fun h2 => ⟨i02, i12, fun h3 => ⟨i02, i12, ⟨fun y hy => ?_, by simp⟩, ddd ?_⟩, fun h3 => dff ?_⟩, fun h2 => dff ?_⟩, fun h1 => dff ?_⟩, fun h1 => dff ?_⟩
 · simp only [List.mem_cons, List.not_mem_nil, or_false] at hy
   unfold small
   rcases hy with rfl | rfl <;> omega
 · rw [gcdL_two _ _ (by omega)]; omega
 · omega
 · omega
 · omega
 · omega
def e84 : Entry Tryd.prog gl := entry2 84 ⟨Tryd.f84, by kernel_rfl, by kernel_rfl, by kernel_rfl⟩ Q2 I64 (fun x (most : Int) => most < 1000000) true (fun x most => [.bool (decide (isPoint x most))]) (fun _ _ => []) (call84)
theorem call57 (x : Int × Int) (_ : True) : GCall Tryd.prog gl 57 true [ofD FR x] [] [.bool (decide (isPiece x))] [] := by
 refine gcall_of (X := X []) (X_ok []) (f := 57) (fn := Tryd.f57) (c := bodyOf Tryd.f57) (by kernel_rfl) (by kernel_rfl) (view := false) (rvs := [.tmp 2]) (by kernel_rfl) (H := fun _ => none) 80 (by kernel_rfl) ?_
 refine of_eq (q := True /\ True /\ True /\ True /\ True /\ True /\ ((0 : Int) <= x.fst -> True /\ True /\ True /\ True /\ True /\ (x.fst <= 6 -> True /\ True /\ True /\ True /\ True /\ ((0 : Int) <= x.snd -> True /\ True /\ True /\ True /\ inR .u64 x.fst /\ (((0 : Int) <= x.fst /\ x.fst < bitsOf .i64) /\ (-9223372036854775808 : Int) <= 1 * 2 ^ Int.toNat x.fst /\ (1 : Int) * 2 ^ Int.toNat x.fst <= 9223372036854775807) /\ True /\ True /\ True /\ True /\ (decide (x.snd < 1 * 2 ^ Int.toNat x.fst) = decide (isPiece x) /\ True) /\ True) /\ (¬(0 : Int) <= x.snd -> True /\ True /\ True /\ (false = decide (isPiece x) /\ True) /\ True)) /\ (¬x.fst <= 6 -> True /\ True /\ True /\ True /\ True /\ (false = decide (isPiece x) /\ True) /\ True)) /\ (¬(0 : Int) <= x.fst -> True /\ True /\ True /\ True /\ True /\ True /\ True /\ (false = decide (isPiece x) /\ True) /\ True)) (by kernel_rfl) ?_
 simp only [zz]
 unfold isPiece
 rw [Int.one_mul]
 refine ⟨fun h => ⟨fun h1 => ⟨fun h2 => ⟨by simp only [inR]; omega, ⟨⟨h, by simp only [bitsOf]; omega⟩, ?_⟩, ddd (by omega)⟩, fun h2 => dff (by omega)⟩, fun h2 => dff (by omega)⟩, fun h2 => dff (by omega)⟩
 have : (2 : Int) ^ x.1.toNat <= 2 ^ 6 := by
   have := Nat.pow_le_pow_right (show 0 < 2 by omega) (show x.1.toNat <= 6 by omega)
   exact_mod_cast this
 have : (0 : Int) < 2 ^ x.1.toNat := Int.pow_pos (by omega)
 omega
def e57 : Entry Tryd.prog gl := entry1 57 ⟨Tryd.f57, by kernel_rfl, by kernel_rfl, by kernel_rfl⟩ FR (fun _ => True) true (fun x => [.bool (decide (isPiece x))]) (fun _ => []) (call57)
noncomputable def L66_0 : Code := lp (bodyOf Tryd.f66) 0
def sz66 (l : List (Int × Int)) (_ : Unit) : St := ⟨.dead :: .dead :: .dead :: .vv (.slice none 0 0) :: .dead :: .dead :: .sl FR l :: .int .i64 l.length :: .int .i64 0 :: dd 13, []⟩
def st66 (l : List (Int × Int)) (k : Nat) : St := ⟨.dead :: .dead :: .dead :: .own 0 0 :: .dead :: .dead :: .sl FR l :: .int .i64 l.length :: .int .i64 k :: dd 13, [.sc 0 23 Q2 (l.take k)]⟩
def fm66 (l : List (Int × Int)) : List Fam := [⟨Unit, fun _ => True, sz66 l, fun _ => l.length + 1, fun _ _ => none⟩, ⟨Nat, fun k => k <= l.length, st66 l, fun k => l.length - k, fun _ _ => none⟩]
def ex66 (l : List (Int × Int)) : List (List Nat × Ex) := [([3], ⟨0, Unit, fun _ => l = [], fun _ => ⟨.dead :: .dead :: .dead :: .vv (.slice none 0 0) :: dd 18, []⟩⟩), ([3], ⟨0, Unit, fun _ => True, fun _ => ⟨.dead :: .dead :: .dead :: .own 0 0 :: dd 18, [.sc 0 23 Q2 l]⟩⟩)]
noncomputable def H66 (l : List (Int × Int)) : Nat -> Option Hint := fun _ => some ⟨chks 0 [3, 6, 7, 8] (fm66 l), (ex66 l).map (·.2)⟩
theorem loop66 (l : List (Int × Int)) (hl : l.length < 1000000) (R : Exit -> St -> Prop) : LoopOK (X []) L66_0 ⟨chks 0 [3, 6, 7, 8] (fm66 l), (ex66 l).map (·.2)⟩ R := by
 refine loop_fams (X_ok []) [3, 6, 7, 8] (fm66 l) (ex66 l) 80 ⟨fun _ _ => ?_, fun k hk => ?_, trivial⟩
 · refine of_eq (q := True /\ ((0 : Int) < (l.length : Int) -> idxPre (0 : Int) l.length /\ True /\ True /\ True /\ True /\ True /\ True /\ True /\ True /\ True /\ True /\ sumPre (0 : Nat) [((l.getD (0 : Nat) (0, 0)).fst, (l.getD (0 : Nat) (0, 0)).snd)].length (nat_lit 16) /\ True /\ inR .i64 (1 : Int) /\ True /\ ((∃ (y : Unit), (True /\ l.length + 1 < l.length + 1) /\ (False /\ l = l /\ (l.length : Int) = (l.length : Int) /\ (1 : Int) = 0 /\ True) /\ True) ∨ ∃ (y : Nat), (y <= l.length /\ l.length - y < l.length + 1) /\ (True /\ l = l /\ (l.length : Int) = (l.length : Int) /\ (1 : Int) = (y : Int) /\ True) /\ [((l.getD (0 : Nat) (0, 0)).fst, (l.getD (0 : Nat) (0, 0)).snd)] = List.take y l /\ True)) /\ (¬(0 : Int) < (l.length : Int) -> (∃ (y : Unit), l = [] /\ (True /\ True) /\ True) ∨ ∃ (y : Unit), True /\ (False /\ True) /\ False)) (by kernel_rfl) ?_
   simp only [zz]
   refine ⟨fun h => ⟨by unfold idxPre; omega, by unfold sumPre; simp, by simp only [inR]; omega, 1, by omega, by simp, ?_⟩, fun h => List.length_eq_zero_iff.mp (by omega)⟩
   rw [take_getD (d := (0, 0)) (by omega)]; try rfl
 · refine of_eq (q := True /\ ((k : Int) < (l.length : Int) -> idxPre (k : Int) l.length /\ True /\ True /\ True /\ True /\ True /\ True /\ True /\ True /\ True /\ True /\ sumPre (List.take k l).length [((l.getD k (0, 0)).fst, (l.getD k (0, 0)).snd)].length (nat_lit 16) /\ True /\ inR .i64 ((k : Int) + 1) /\ True /\ ((∃ (y : Unit), (True /\ l.length + 1 < l.length - k) /\ (False /\ l = l /\ (l.length : Int) = (l.length : Int) /\ (k : Int) + 1 = 0 /\ True) /\ True) ∨ ∃ (y : Nat), (y <= l.length /\ l.length - y < l.length - k) /\ (True /\ l = l /\ (l.length : Int) = (l.length : Int) /\ (k : Int) + 1 = (y : Int) /\ True) /\ List.take k l ++ [((l.getD k (0, 0)).fst, (l.getD k (0, 0)).snd)] = List.take y l /\ True)) /\ (¬(k : Int) < (l.length : Int) -> (∃ (y : Unit), l = [] /\ (False /\ True) /\ True) ∨ ∃ (y : Unit), True /\ (True /\ True) /\ List.take k l = l /\ True)) (by kernel_rfl) ?_
   simp only [zz]
   refine ⟨fun h => ⟨idx_nat (by omega), by unfold sumPre; simp; omega, by simp only [inR]; omega, k + 1, by omega, by simp, ?_⟩, fun h => List.take_of_length_le (by omega)⟩
   rw [take_getD (d := (0, 0)) (by omega)]; try rfl
theorem call66 (l : List (Int × Int)) (hl : l.length < 1000000) : GCall Tryd.prog gl 66 false [.sl FR l] [] [.sl Q2 l] [] := by
 refine gcall_of (X := X []) (X_ok []) (f := 66) (fn := Tryd.f66) (c := bodyOf Tryd.f66) (by kernel_rfl) (by kernel_rfl) (view := true) (rvs := [.tmp 2]) (by kernel_rfl) (H := (H66 l)) 80 (by kernel_rfl) ?_
 have hL := loop66 l hl
 refine of_eq (q := True /\ True /\ True /\ True /\ True /\ LoopOK (X []) L66_0 { J := chks (0 : Nat) [(3 : Nat), (6 : Nat), (7 : Nat), (8 : Nat)] (fm66 l), exits := List.map (fun (x : List Nat × Ex) => x.snd) (ex66 l) } (RetR (X []) false true [ResultVar.tmp (2 : Tmp)] [AV.sl Q2 l] []) /\ ((∃ (y : Unit), True /\ (True /\ l = l /\ (l.length : Int) = (l.length : Int) /\ (0 : Int) = 0 /\ True) /\ True) ∨ ∃ (y : Nat), y <= l.length /\ (False /\ l = l /\ (l.length : Int) = (l.length : Int) /\ (0 : Int) = (y : Int) /\ True) /\ False) /\ (∀ (y : Unit), l = [] -> True /\ True /\ True /\ (([] : List (Int × Int)) = l /\ True) /\ True) /\ (∀ (y : Unit), True -> True /\ True /\ True /\ (l = l /\ True) /\ True) /\ True) (by kernel_rfl) ?_
 simp only [zz]
 exact ⟨hL _, fun _ h => h.symm, fun _ _ => trivial⟩
def e66 : Entry Tryd.prog gl := entry1 66 ⟨Tryd.f66, by kernel_rfl, by kernel_rfl, by kernel_rfl⟩ SF (fun l => l.length < 1000000) false (fun l => [.sl Q2 l]) (fun _ => []) (call66)
def brow (n : Nat) : List Int := (List.range 7).map fun k => ch n k
def brk (n k : Nat) : List Int := (List.range 7).map fun j => if k <= j then ch (n + 1) j else ch n j
noncomputable def L77_0 : Code := lp (bodyOf Tryd.f77) 0
noncomputable def L77_2 : Code := lp (bodyOf Tryd.f77) 2
def st77 (n k : Nat) : St := ⟨.dead :: .dead :: .ptr 0 0 [] :: .ptr 1 0 [] :: .dead :: .dead :: .int .i64 n :: .int .i64 k :: dd 16, [.bx (.ar I64 7 (List.replicate 7 0)), .bx (.ar I64 7 (brow k))]⟩
def ex77 (n : Nat) : List (List Nat × Ex) := [([2, 3], ⟨0, Unit, fun _ => True, fun _ => ⟨.dead :: .dead :: .ptr 0 0 [] :: .ptr 1 0 [] :: dd 20, [.bx (.ar I64 7 (List.replicate 7 0)), .bx (.ar I64 7 (brow n))]⟩⟩)]
def sj77 (n k : Nat) (i : Nat) : St := ⟨.dead :: .dead :: .ptr 0 0 [] :: .ptr 1 0 [] :: .int .i64 i :: .dead :: .int .i64 n :: .int .i64 k :: dd 16, [.bx (.ar I64 7 (List.replicate 7 0)), .bx (.ar I64 7 (brk k (i + 1)))]⟩
def ej77 (n k : Nat) : List (List Nat × Ex) := [([2, 3, 6, 7], ⟨2, Unit, fun _ => True, fun _ => ⟨.dead :: .dead :: .ptr 0 0 [] :: .ptr 1 0 [] :: .dead :: .dead :: .int .i64 n :: .int .i64 k :: dd 16, [.bx (.ar I64 7 (List.replicate 7 0)), .bx (.ar I64 7 (brow (k + 1)))]⟩⟩)]
noncomputable def H77 (n k : Nat) : Nat -> Option Hint
 | 0 => some ⟨chk 0 [2, 3, 6, 7] (fun i => i <= n) (st77 n), (ex77 n).map (·.2)⟩
 | 2 => some ⟨chk 0 [2, 3, 4, 6, 7] (fun i => i <= 6) (sj77 n k), (ej77 n k).map (·.2)⟩
 | _ => none
theorem brk_step0 : ∀ k : Fin 7, ∀ i : Fin 7, 0 < i.val -> (brk k (i + 1)).set i ((brk k (i + 1)).getD i 0 + (brk k (i + 1)).getD (i - 1) 0) = brk k i /\ -1000 <= (brk k (i + 1)).getD i 0 + (brk k (i + 1)).getD (i - 1) 0 /\ (brk k (i + 1)).getD i 0 + (brk k (i + 1)).getD (i - 1) 0 <= 1000 := by decide
theorem brk_step {k i : Nat} (hk : k <= 6) (hi : i <= 6) (h : 0 < i) : (brk k (i + 1)).set i ((brk k (i + 1)).getD i 0 + (brk k (i + 1)).getD (i - 1) 0) = brk k i /\ -1000 <= (brk k (i + 1)).getD i 0 + (brk k (i + 1)).getD (i - 1) 0 /\ (brk k (i + 1)).getD i 0 + (brk k (i + 1)).getD (i - 1) 0 <= 1000 :=
 brk_step0 ⟨k, by omega⟩ ⟨i, by omega⟩ h
theorem brk_last0 : ∀ k : Fin 7, brk k 1 = brow (k + 1) /\ brk k 7 = brow k := by decide
theorem brk_last {k : Nat} (h : k <= 6) : brk k 1 = brow (k + 1) /\ brk k 7 = brow k := brk_last0 ⟨k, by omega⟩
theorem loop77_2 (n k : Nat) (hk : k <= 6) (R : Exit -> St -> Prop) : LoopOK (X []) L77_2 ⟨chk 0 [2, 3, 4, 6, 7] (fun i => i <= 6) (sj77 n k), (ej77 n k).map (·.2)⟩ R := by
 refine loop_ok (X_ok []) (H := fun _ _ => none) [2, 3, 4, 6, 7] (fun i => i <= 6) (sj77 n k) (fun i => i) (ej77 n k) 80 fun i hi => ?_
 refine of_eq (q := True /\ True /\ ((0 : Int) < (i : Int) -> True /\ idxPre (i : Int) (7 : Nat) /\ True /\ True /\ inR .i64 ((i : Int) - 1) /\ idxPre ((i : Int) - 1) (7 : Nat) /\ True /\ inR .i64 ((brk k (i + 1)).getD i (0 : Int) + (brk k (i + 1)).getD ((i : Int) - 1).toNat (0 : Int)) /\ idxPre (i : Int) (7 : Nat) /\ True /\ True /\ inR .i64 ((i : Int) - 1) /\ True /\ ∃ (y : Nat), (y <= 6 /\ y < i) /\ (True /\ True /\ (i : Int) - 1 = (y : Int) /\ (n : Int) = (n : Int) /\ (k : Int) = (k : Int) /\ True) /\ [(0 : (fun (x : Ty) => Ty.brecOn x Ty.D._f) I64), (0 : (fun (x : Ty) => Ty.brecOn x Ty.D._f) I64), (0 : (fun (x : Ty) => Ty.brecOn x Ty.D._f) I64), (0 : (fun (x : Ty) => Ty.brecOn x Ty.D._f) I64), (0 : (fun (x : Ty) => Ty.brecOn x Ty.D._f) I64), (0 : (fun (x : Ty) => Ty.brecOn x Ty.D._f) I64), (0 : (fun (x : Ty) => Ty.brecOn x Ty.D._f) I64)] = [(0 : (fun (x : Ty) => Ty.brecOn x Ty.D._f) I64), (0 : (fun (x : Ty) => Ty.brecOn x Ty.D._f) I64), (0 : (fun (x : Ty) => Ty.brecOn x Ty.D._f) I64), (0 : (fun (x : Ty) => Ty.brecOn x Ty.D._f) I64), (0 : (fun (x : Ty) => Ty.brecOn x Ty.D._f) I64), (0 : (fun (x : Ty) => Ty.brecOn x Ty.D._f) I64), (0 : (fun (x : Ty) => Ty.brecOn x Ty.D._f) I64)] /\ (brk k (i + 1)).set i ((brk k (i + 1)).getD i (0 : Int) + (brk k (i + 1)).getD ((i : Int) - 1).toNat (0 : Int)) = brk k (y + 1) /\ True) /\ (¬(0 : Int) < (i : Int) -> ∃ (y : Unit), True /\ (True /\ True /\ (n : Int) = (n : Int) /\ (k : Int) = (k : Int) /\ True) /\ [(0 : (fun (x : Ty) => Ty.brecOn x Ty.D._f) I64), (0 : (fun (x : Ty) => Ty.brecOn x Ty.D._f) I64), (0 : (fun (x : Ty) => Ty.brecOn x Ty.D._f) I64), (0 : (fun (x : Ty) => Ty.brecOn x Ty.D._f) I64), (0 : (fun (x : Ty) => Ty.brecOn x Ty.D._f) I64), (0 : (fun (x : Ty) => Ty.brecOn x Ty.D._f) I64), (0 : (fun (x : Ty) => Ty.brecOn x Ty.D._f) I64)] = [(0 : (fun (x : Ty) => Ty.brecOn x Ty.D._f) I64), (0 : (fun (x : Ty) => Ty.brecOn x Ty.D._f) I64), (0 : (fun (x : Ty) => Ty.brecOn x Ty.D._f) I64), (0 : (fun (x : Ty) => Ty.brecOn x Ty.D._f) I64), (0 : (fun (x : Ty) => Ty.brecOn x Ty.D._f) I64), (0 : (fun (x : Ty) => Ty.brecOn x Ty.D._f) I64), (0 : (fun (x : Ty) => Ty.brecOn x Ty.D._f) I64)] /\ brk k (i + 1) = brow (k + 1) /\ True)) (by kernel_rfl) ?_
 simp only [zz]
 refine ⟨fun h => ?_, fun h => ?_⟩
 · obtain ⟨j, rfl⟩ : ∃ j, i = j + 1 := ⟨i - 1, by omega⟩
   have e : ((j + 1 : Nat) : Int) - 1 = (j : Int) := by omega
   have hs := brk_step hk hi (by omega)
   rw [e, Int.toNat_natCast]
   simp only [Nat.add_sub_cancel] at hs
   exact ⟨idx_nat (by omega), by simp only [inR]; omega, idx_nat (by omega), by simp only [inR]; omega, idx_nat (by omega), by simp only [inR]; omega, j, by omega, rfl, hs.1⟩
 · rw [show i = 0 by omega]; exact (brk_last hk).1
theorem loop77 (n : Nat) (hn : n <= 6) (R : Exit -> St -> Prop) : LoopOK (X []) L77_0 ⟨chk 0 [2, 3, 6, 7] (fun i => i <= n) (st77 n), (ex77 n).map (·.2)⟩ R := by
 refine loop_ok (X_ok []) (H := fun k i => H77 n k i) [2, 3, 6, 7] (fun i => i <= n) (st77 n) (fun i => n - i) (ex77 n) 80 fun k hk => ?_
 have hk' : k <= n := hk
 have hL := loop77_2 n k (by omega)
 refine of_eq (q := True /\ ((k : Int) < (n : Int) -> True /\ LoopOK (X []) L77_2 { J := chk (0 : Nat) [(2 : Nat), (3 : Nat), (4 : Nat), (6 : Nat), (7 : Nat)] (fun (i : Nat) => i <= 6) (sj77 n k), exits := List.map (fun (x : List Nat × Ex) => x.snd) (ej77 n k) } (bodyR (X []).m0 (ex77 n) R) /\ (∃ (y : Nat), y <= 6 /\ (True /\ True /\ (6 : Int) = (y : Int) /\ (n : Int) = (n : Int) /\ (k : Int) = (k : Int) /\ True) /\ [(0 : (fun (x : Ty) => Ty.brecOn x Ty.D._f) I64), (0 : (fun (x : Ty) => Ty.brecOn x Ty.D._f) I64), (0 : (fun (x : Ty) => Ty.brecOn x Ty.D._f) I64), (0 : (fun (x : Ty) => Ty.brecOn x Ty.D._f) I64), (0 : (fun (x : Ty) => Ty.brecOn x Ty.D._f) I64), (0 : (fun (x : Ty) => Ty.brecOn x Ty.D._f) I64), (0 : (fun (x : Ty) => Ty.brecOn x Ty.D._f) I64)] = [(0 : (fun (x : Ty) => Ty.brecOn x Ty.D._f) I64), (0 : (fun (x : Ty) => Ty.brecOn x Ty.D._f) I64), (0 : (fun (x : Ty) => Ty.brecOn x Ty.D._f) I64), (0 : (fun (x : Ty) => Ty.brecOn x Ty.D._f) I64), (0 : (fun (x : Ty) => Ty.brecOn x Ty.D._f) I64), (0 : (fun (x : Ty) => Ty.brecOn x Ty.D._f) I64), (0 : (fun (x : Ty) => Ty.brecOn x Ty.D._f) I64)] /\ brow k = brk k (y + 1) /\ True) /\ (∀ (y : Unit), True -> inR .i64 ((k : Int) + 1) /\ True /\ ∃ (y : Nat), (y <= n /\ n - y < n - k) /\ (True /\ True /\ (n : Int) = (n : Int) /\ (k : Int) + 1 = (y : Int) /\ True) /\ [(0 : (fun (x : Ty) => Ty.brecOn x Ty.D._f) I64), (0 : (fun (x : Ty) => Ty.brecOn x Ty.D._f) I64), (0 : (fun (x : Ty) => Ty.brecOn x Ty.D._f) I64), (0 : (fun (x : Ty) => Ty.brecOn x Ty.D._f) I64), (0 : (fun (x : Ty) => Ty.brecOn x Ty.D._f) I64), (0 : (fun (x : Ty) => Ty.brecOn x Ty.D._f) I64), (0 : (fun (x : Ty) => Ty.brecOn x Ty.D._f) I64)] = [(0 : (fun (x : Ty) => Ty.brecOn x Ty.D._f) I64), (0 : (fun (x : Ty) => Ty.brecOn x Ty.D._f) I64), (0 : (fun (x : Ty) => Ty.brecOn x Ty.D._f) I64), (0 : (fun (x : Ty) => Ty.brecOn x Ty.D._f) I64), (0 : (fun (x : Ty) => Ty.brecOn x Ty.D._f) I64), (0 : (fun (x : Ty) => Ty.brecOn x Ty.D._f) I64), (0 : (fun (x : Ty) => Ty.brecOn x Ty.D._f) I64)] /\ brow (k + 1) = brow y /\ True) /\ True) /\ (¬(k : Int) < (n : Int) -> ∃ (y : Unit), True /\ (True /\ True /\ True) /\ [(0 : (fun (x : Ty) => Ty.brecOn x Ty.D._f) I64), (0 : (fun (x : Ty) => Ty.brecOn x Ty.D._f) I64), (0 : (fun (x : Ty) => Ty.brecOn x Ty.D._f) I64), (0 : (fun (x : Ty) => Ty.brecOn x Ty.D._f) I64), (0 : (fun (x : Ty) => Ty.brecOn x Ty.D._f) I64), (0 : (fun (x : Ty) => Ty.brecOn x Ty.D._f) I64), (0 : (fun (x : Ty) => Ty.brecOn x Ty.D._f) I64)] = [(0 : (fun (x : Ty) => Ty.brecOn x Ty.D._f) I64), (0 : (fun (x : Ty) => Ty.brecOn x Ty.D._f) I64), (0 : (fun (x : Ty) => Ty.brecOn x Ty.D._f) I64), (0 : (fun (x : Ty) => Ty.brecOn x Ty.D._f) I64), (0 : (fun (x : Ty) => Ty.brecOn x Ty.D._f) I64), (0 : (fun (x : Ty) => Ty.brecOn x Ty.D._f) I64), (0 : (fun (x : Ty) => Ty.brecOn x Ty.D._f) I64)] /\ brow k = brow n /\ True)) (by kernel_rfl) ?_
 simp only [zz]
 refine ⟨fun h => ⟨hL _, ⟨6, by omega, rfl, (brk_last (by omega)).2.symm⟩, fun _ _ => ⟨by simp only [inR]; omega, k + 1, ⟨by omega, by omega⟩, by simp, rfl⟩⟩, fun h => by rw [show k = n by omega]⟩
theorem call77 (n : Nat) (hn : n <= 6) : GCall Tryd.prog gl 77 true [.int .i64 n] [] [.ar I64 7 (brow n)] [] := by
 refine gcall_of (X := X []) (X_ok []) (f := 77) (fn := Tryd.f77) (c := bodyOf Tryd.f77) (by kernel_rfl) (by kernel_rfl) (view := false) (rvs := [.cell 2 111]) (by kernel_rfl) (H := (H77 n 0)) 80 (by kernel_rfl) ?_
 have hL := loop77 n hn
 refine of_eq (q := True /\ True /\ True /\ True /\ True /\ True /\ LoopOK (X []) L77_0 { J := chk (0 : Nat) [(2 : Nat), (3 : Nat), (6 : Nat), (7 : Nat)] (fun (i : Nat) => i <= n) (st77 n), exits := List.map (fun (x : List Nat × Ex) => x.snd) (ex77 n) } (RetR (X []) true false [ResultVar.cell (2 : Tmp) (111 : TypeId)] [AV.ar I64 (7 : Nat) (brow n)] []) /\ (∃ (y : Nat), y <= n /\ (True /\ True /\ (n : Int) = (n : Int) /\ (0 : Int) = (y : Int) /\ True) /\ [(0 : Int), (0 : Int), (0 : Int), (0 : Int), (0 : Int), (0 : Int), (0 : Int)] = [(0 : (fun (x : Ty) => Ty.brecOn x Ty.D._f) I64), (0 : (fun (x : Ty) => Ty.brecOn x Ty.D._f) I64), (0 : (fun (x : Ty) => Ty.brecOn x Ty.D._f) I64), (0 : (fun (x : Ty) => Ty.brecOn x Ty.D._f) I64), (0 : (fun (x : Ty) => Ty.brecOn x Ty.D._f) I64), (0 : (fun (x : Ty) => Ty.brecOn x Ty.D._f) I64), (0 : (fun (x : Ty) => Ty.brecOn x Ty.D._f) I64)] /\ [(1 : Int), (0 : Int), (0 : Int), (0 : Int), (0 : Int), (0 : Int), (0 : Int)] = brow y /\ True) /\ (∀ (y : Unit), True -> True /\ True /\ (True /\ True) /\ (brow n = brow n /\ True) /\ True) /\ True) (by kernel_rfl) ?_
 simp only [zz]
 exact ⟨hL _, ⟨0, by omega, rfl, rfl⟩, fun _ _ => trivial⟩
def e77 : Entry Tryd.prog gl := entry1 77 ⟨Tryd.f77, by kernel_rfl, by kernel_rfl, by kernel_rfl⟩ I64 (fun (n : Int) => 0 <= n /\ n <= 6) true (fun (n : Int) => [.ar I64 7 (brow n.toNat)]) (fun _ => []) (fun (n : Int) h => by have := call77 n.toNat (by have : 0 <= n /\ n <= 6 := h; omega); rwa [Int.toNat_of_nonneg h.1] at this)
end Go.Am.Bern

/- Bern: the reference's functions of lists; changes. -/
namespace Go.Am.Bern
open Go Go.Am Go.Proofs
def chgS : Int -> List Int -> Nat
 | _, [] => 0
 | last, a :: l => if a = 0 then chgS last l else (if last ≠ 0 /\ ¬ (a < 0 ↔ last < 0) then 1 else 0) + chgS a l
def chg (l : List (Int × Int)) : Nat := chgS 0 (l.map (·.1))
theorem chgS_sgn : ∀ (l : List Int) (a : Int), chgS (sgn a) l = chgS a l
 | [], _ => rfl
 | b :: l, a => by
   unfold chgS
   have h1 : sgn a ≠ 0 ↔ a ≠ 0 := by unfold sgn; split <;> (try split) <;> omega
   have h2 : sgn a < 0 ↔ a < 0 := by unfold sgn; split <;> (try split) <;> omega
   rw [chgS_sgn l a]
   simp only [h1, h2]
theorem chgS_le : ∀ (l : List Int) (a : Int), chgS a l <= l.length
 | [], _ => Nat.le_refl _
 | b :: l, a => by
   unfold chgS
   have h1 := chgS_le l a
   have h2 := chgS_le l b
   simp only [List.length_cons]
   split
   · omega
   · split <;> omega
theorem chg_drop {l : List (Int × Int)} {k : Nat} (h : k < l.length) : (l.drop k).map (·.1) = (l.getD k (0, 0)).1 :: (l.drop (k + 1)).map (·.1) := by
 rw [drop_getD (d := (0, 0)) h]; try rfl
theorem chg_le (l : List (Int × Int)) : chg l <= l.length := by have := chgS_le (l.map (·.1)) 0; simpa [chg] using this
theorem sgn_zero {a : Int} : sgn a = 0 ↔ a = 0 := by unfold sgn; split <;> (try split) <;> omega
theorem sgn_cases (a : Int) : sgn a = 0 ∨ sgn a = 1 ∨ sgn a = -1 := by unfold sgn; split <;> (try split) <;> omega
theorem sgn_neg {a : Int} : sgn a < 0 ↔ a < 0 := by unfold sgn; split <;> (try split) <;> omega
noncomputable def L33_0 : Code := lp (bodyOf Tryd.f33) 0
def st33 (l : List (Int × Int)) (p : Nat × Nat × Int) : St := ⟨.sl Q2 l :: .dead :: .dead :: .int .i64 p.2.1 :: .int .i64 p.2.2 :: .int .i64 p.1 :: dd 25, []⟩
def inv33 (l : List (Int × Int)) (p : Nat × Nat × Int) : Prop := p.1 <= l.length /\ p.2.1 + chgS p.2.2 ((l.drop p.1).map (·.1)) = chg l /\ (p.2.2 = 0 ∨ p.2.2 = 1 ∨ p.2.2 = -1)
def ex33 (l : List (Int × Int)) : List (List Nat × Ex) := [([3], ⟨0, Unit, fun _ => True, fun _ => ⟨.dead :: .dead :: .dead :: .int .i64 (chg l) :: dd 27, []⟩⟩)]
noncomputable def H33 (l : List (Int × Int)) : Nat -> Option Hint := fun _ => some ⟨chk 0 [0, 3, 4, 5] (inv33 l) (st33 l), (ex33 l).map (·.2)⟩
theorem loop33 (l : List (Int × Int)) (hl : l.length < 1000000) (R : Exit -> St -> Prop) : LoopOK (X [e79]) L33_0 ⟨chk 0 [0, 3, 4, 5] (inv33 l) (st33 l), (ex33 l).map (·.2)⟩ R := by
 refine loop_ok (X_ok [e79]) (H := fun _ _ => none) [0, 3, 4, 5] (inv33 l) (st33 l) (fun p => l.length - p.1) (ex33 l) 80 fun p hp => ?_
 refine of_eq (q := True /\ True /\ True /\ True /\ ((p.fst : Int) < (l.length : Int) -> True /\ True /\ idxPre (p.fst : Int) l.length /\ True /\ (True /\ True) /\ True /\ True /\ True /\ (sgn (l.getD p.fst (0, 0)).fst = 0 -> True /\ inR .i64 ((p.fst : Int) + 1) /\ True /\ ∃ (y : Nat × Nat × Int), (inv33 l y /\ l.length - y.fst < l.length - p.fst) /\ (l = l /\ (p.snd.fst : Int) = (y.snd.fst : Int) /\ p.snd.snd = y.snd.snd /\ (p.fst : Int) + 1 = (y.fst : Int) /\ True) /\ True) /\ (¬sgn (l.getD p.fst (0, 0)).fst = 0 -> True /\ True /\ True /\ (¬p.snd.snd = 0 -> True /\ True /\ True /\ True /\ (¬sgn (l.getD p.fst (0, 0)).fst = p.snd.snd -> True /\ inR .i64 ((p.snd.fst : Int) + 1) /\ True /\ True /\ True /\ True /\ inR .i64 ((p.fst : Int) + 1) /\ True /\ ∃ (y : Nat × Nat × Int), (inv33 l y /\ l.length - y.fst < l.length - p.fst) /\ (l = l /\ (p.snd.fst : Int) + 1 = (y.snd.fst : Int) /\ sgn (l.getD p.fst (0, 0)).fst = y.snd.snd /\ (p.fst : Int) + 1 = (y.fst : Int) /\ True) /\ True) /\ (¬¬sgn (l.getD p.fst (0, 0)).fst = p.snd.snd -> True /\ True /\ True /\ inR .i64 ((p.fst : Int) + 1) /\ True /\ ∃ (y : Nat × Nat × Int), (inv33 l y /\ l.length - y.fst < l.length - p.fst) /\ (l = l /\ (p.snd.fst : Int) = (y.snd.fst : Int) /\ sgn (l.getD p.fst (0, 0)).fst = y.snd.snd /\ (p.fst : Int) + 1 = (y.fst : Int) /\ True) /\ True)) /\ (¬¬p.snd.snd = 0 -> True /\ True /\ True /\ True /\ inR .i64 ((p.fst : Int) + 1) /\ True /\ ∃ (y : Nat × Nat × Int), (inv33 l y /\ l.length - y.fst < l.length - p.fst) /\ (l = l /\ (p.snd.fst : Int) = (y.snd.fst : Int) /\ sgn (l.getD p.fst (0, 0)).fst = y.snd.snd /\ (p.fst : Int) + 1 = (y.fst : Int) /\ True) /\ True))) /\ (¬(p.fst : Int) < (l.length : Int) -> ∃ (y : Unit), True /\ ((p.snd.fst : Int) = (↑(chg l) : Int) /\ True) /\ True)) (by kernel_rfl) ?_
 simp only [zz]
 obtain ⟨h1, h2, h3⟩ := hp
 have hle := chg_le l
 refine ⟨fun h => ?_, fun h => ?_⟩
 · have h' : p.1 < l.length := by omega
   rw [chg_drop h'] at h2
   generalize (l.getD p.1 (0, 0)).1 = a at *
   have hi : inR .i64 ((p.1 : Int) + 1) := by simp only [inR]; omega
   have hj : inR .i64 ((p.2.1 : Int) + 1) := by simp only [inR]; omega
   unfold chgS at h2
   refine ⟨idx_nat h', fun h4 => ⟨hi, (p.1 + 1, p.2.1, p.2.2), ⟨⟨h', ?_, h3⟩, by simp only; omega⟩, by simp⟩, fun h4 => ⟨fun h5 => ⟨fun h6 => ⟨hj, hi, (p.1 + 1, p.2.1 + 1, sgn a), ⟨⟨h', ?_, sgn_cases a⟩, by simp only; omega⟩, by simp⟩, fun h6 => ⟨hi, (p.1 + 1, p.2.1, sgn a), ⟨⟨h', ?_, sgn_cases a⟩, by simp only; omega⟩, by simp⟩⟩, fun h5 => ⟨hi, (p.1 + 1, p.2.1, sgn a), ⟨⟨h', ?_, sgn_cases a⟩, by simp only; omega⟩, by simp⟩⟩⟩
   · rw [if_pos (sgn_zero.mp h4)] at h2; exact h2
   · have hc : ¬ (a < 0 ↔ p.2.2 < 0) := by have := sgn_cases a; have := @sgn_neg a; omega
     rw [if_neg (fun e => h4 (sgn_zero.mpr e)), if_pos ⟨h5, hc⟩] at h2
     simp only [chgS_sgn]; omega
   · have hc : ¬ (p.2.2 ≠ 0 /\ ¬ (a < 0 ↔ p.2.2 < 0)) := by
       rintro ⟨_, e⟩
       have e' := Classical.not_not.mp h6
       exact e (by rw [<- sgn_neg, e'])
     rw [if_neg (fun e => h4 (sgn_zero.mpr e)), if_neg hc] at h2
     simp only [chgS_sgn]; omega
   · rw [if_neg (fun e => h4 (sgn_zero.mpr e)), if_neg (fun e => h5 e.1)] at h2
     simp only [chgS_sgn]; omega
 · rw [List.drop_of_length_le (by omega)] at h2
   simp [chgS] at h2; omega
theorem call33 (l : List (Int × Int)) (hl : l.length < 1000000) : GCall Tryd.prog gl 33 true [.sl Q2 l] [] [.int .i64 (chg l)] [] := by
 refine gcall_of (X := X [e79]) (X_ok [e79]) (f := 33) (fn := Tryd.f33) (c := bodyOf Tryd.f33) (by kernel_rfl) (by kernel_rfl) (view := false) (rvs := [.tmp 2]) (by kernel_rfl) (H := (H33 l)) 80 (by kernel_rfl) ?_
 have hL := loop33 l hl
 refine of_eq (q := True /\ True /\ True /\ True /\ LoopOK (X [e79]) L33_0 { J := chk (0 : Nat) [(0 : Nat), (3 : Nat), (4 : Nat), (5 : Nat)] (inv33 l) (st33 l), exits := List.map (fun (x : List Nat × Ex) => x.snd) (ex33 l) } (RetR (X [e79]) true false [ResultVar.tmp (2 : Tmp)] [AV.int .i64 (↑(chg l) : Int)] []) /\ (∃ (y : Nat × Nat × Int), inv33 l y /\ (l = l /\ (0 : Int) = (y.snd.fst : Int) /\ (0 : Int) = y.snd.snd /\ (0 : Int) = (y.fst : Int) /\ True) /\ True) /\ (∀ (y : Unit), True -> True /\ True /\ True /\ ((↑(chg l) : Int) = (↑(chg l) : Int) /\ True) /\ True) /\ True) (by kernel_rfl) ?_
 simp only [zz]
 exact ⟨hL _, ⟨(0, 0, 0), ⟨by simp, by simp [chg], .inl rfl⟩, by simp⟩, fun _ _ => trivial⟩
def e33 : Entry Tryd.prog gl := entry1 33 ⟨Tryd.f33, by kernel_rfl, by kernel_rfl, by kernel_rfl⟩ SQ (fun l => l.length < 1000000) true (fun l => [.int .i64 (chg l)]) (fun _ => []) (call33)
noncomputable def L65_0 : Code := lp (bodyOf Tryd.f65) 0
def st65 (l : List (Int × Int)) (p : Nat × Nat × Int) : St := ⟨.dead :: .dead :: .dead :: .int .i64 p.2.1 :: .int .i64 p.2.2 :: .dead :: .dead :: .sl FR l :: .int .i64 l.length :: .int .i64 p.1 :: dd 22, []⟩
def inv65 (l : List (Int × Int)) (p : Nat × Nat × Int) : Prop := p.1 <= l.length /\ p.2.1 + chgS p.2.2 ((l.drop p.1).map (·.1)) = chg l
def ex65 (l : List (Int × Int)) : List (List Nat × Ex) := [([3], ⟨0, Unit, fun _ => True, fun _ => ⟨.dead :: .dead :: .dead :: .int .i64 (chg l) :: dd 28, []⟩⟩)]
noncomputable def H65 (l : List (Int × Int)) : Nat -> Option Hint := fun _ => some ⟨chk 0 [3, 4, 7, 8, 9] (inv65 l) (st65 l), (ex65 l).map (·.2)⟩
theorem loop65 (l : List (Int × Int)) (hl : l.length < 1000000) (R : Exit -> St -> Prop) : LoopOK (X []) L65_0 ⟨chk 0 [3, 4, 7, 8, 9] (inv65 l) (st65 l), (ex65 l).map (·.2)⟩ R := by
 refine loop_ok (X_ok []) (H := fun _ _ => none) [3, 4, 7, 8, 9] (inv65 l) (st65 l) (fun p => l.length - p.1) (ex65 l) 80 fun p hp => ?_
 refine of_eq (q := True /\ ((p.fst : Int) < (l.length : Int) -> idxPre (p.fst : Int) l.length /\ True /\ True /\ True /\ True /\ True /\ True /\ ((l.getD p.fst (0, 0)).fst = 0 -> inR .i64 ((p.fst : Int) + 1) /\ True /\ ∃ (y : Nat × Nat × Int), (inv65 l y /\ l.length - y.fst < l.length - p.fst) /\ ((p.snd.fst : Int) = (y.snd.fst : Int) /\ p.snd.snd = y.snd.snd /\ l = l /\ (l.length : Int) = (l.length : Int) /\ (p.fst : Int) + 1 = (y.fst : Int) /\ True) /\ True) /\ (¬(l.getD p.fst (0, 0)).fst = 0 -> True /\ True /\ True /\ (¬p.snd.snd = 0 -> True /\ True /\ True /\ True /\ True /\ True /\ True /\ ((decide ((l.getD p.fst (0, 0)).fst < 0) != decide (p.snd.snd < 0)) = true -> True /\ inR .i64 ((p.snd.fst : Int) + 1) /\ True /\ True /\ True /\ True /\ inR .i64 ((p.fst : Int) + 1) /\ True /\ ∃ (y : Nat × Nat × Int), (inv65 l y /\ l.length - y.fst < l.length - p.fst) /\ ((p.snd.fst : Int) + 1 = (y.snd.fst : Int) /\ (l.getD p.fst (0, 0)).fst = y.snd.snd /\ l = l /\ (l.length : Int) = (l.length : Int) /\ (p.fst : Int) + 1 = (y.fst : Int) /\ True) /\ True) /\ ((decide ((l.getD p.fst (0, 0)).fst < 0) != decide (p.snd.snd < 0)) = false -> True /\ True /\ True /\ inR .i64 ((p.fst : Int) + 1) /\ True /\ ∃ (y : Nat × Nat × Int), (inv65 l y /\ l.length - y.fst < l.length - p.fst) /\ ((p.snd.fst : Int) = (y.snd.fst : Int) /\ (l.getD p.fst (0, 0)).fst = y.snd.snd /\ l = l /\ (l.length : Int) = (l.length : Int) /\ (p.fst : Int) + 1 = (y.fst : Int) /\ True) /\ True)) /\ (¬¬p.snd.snd = 0 -> True /\ True /\ True /\ True /\ inR .i64 ((p.fst : Int) + 1) /\ True /\ ∃ (y : Nat × Nat × Int), (inv65 l y /\ l.length - y.fst < l.length - p.fst) /\ ((p.snd.fst : Int) = (y.snd.fst : Int) /\ (l.getD p.fst (0, 0)).fst = y.snd.snd /\ l = l /\ (l.length : Int) = (l.length : Int) /\ (p.fst : Int) + 1 = (y.fst : Int) /\ True) /\ True))) /\ (¬(p.fst : Int) < (l.length : Int) -> ∃ (y : Unit), True /\ ((p.snd.fst : Int) = (↑(chg l) : Int) /\ True) /\ True)) (by kernel_rfl) ?_
 simp only [zz]
 obtain ⟨h1, h2⟩ := hp
 have hle := chg_le l
 refine ⟨fun h => ?_, fun h => ?_⟩
 · have h' : p.1 < l.length := by omega
   rw [chg_drop h'] at h2
   generalize (l.getD p.1 (0, 0)).1 = a at *
   have hi : inR .i64 ((p.1 : Int) + 1) := by simp only [inR]; omega
   have hj : inR .i64 ((p.2.1 : Int) + 1) := by simp only [inR]; omega
   unfold chgS at h2
   refine ⟨idx_nat h', fun h4 => ⟨hi, (p.1 + 1, p.2.1, p.2.2), ⟨⟨h', ?_⟩, by simp only; omega⟩, by simp⟩, fun h4 => ⟨fun h5 => ⟨fun h6 => ⟨hj, hi, (p.1 + 1, p.2.1 + 1, a), ⟨⟨h', ?_⟩, by simp only; omega⟩, by simp⟩, fun h6 => ⟨hi, (p.1 + 1, p.2.1, a), ⟨⟨h', ?_⟩, by simp only; omega⟩, by simp⟩⟩, fun h5 => ⟨hi, (p.1 + 1, p.2.1, a), ⟨⟨h', ?_⟩, by simp only; omega⟩, by simp⟩⟩⟩
   · rw [if_pos h4] at h2; exact h2
   · have hc : ¬ (a < 0 ↔ p.2.2 < 0) := fun e => by simp [e] at h6
     rw [if_neg h4, if_pos ⟨h5, hc⟩] at h2
     simp only; omega
   · have hc : ¬ (p.2.2 ≠ 0 /\ ¬ (a < 0 ↔ p.2.2 < 0)) := by
       rintro ⟨_, e⟩
       refine e ?_
       by_cases q1 : a < 0 <;> by_cases q2 : p.2.2 < 0 <;> simp_all
     rw [if_neg h4, if_neg hc] at h2
     simp only; omega
   · rw [if_neg h4, if_neg (fun e => h5 e.1)] at h2
     simp only; omega
 · rw [List.drop_of_length_le (by omega)] at h2
   simp [chgS] at h2; omega
theorem call65 (l : List (Int × Int)) (hl : l.length < 1000000) : GCall Tryd.prog gl 65 true [.sl FR l] [] [.int .i64 (chg l)] [] := by
 refine gcall_of (X := X []) (X_ok []) (f := 65) (fn := Tryd.f65) (c := bodyOf Tryd.f65) (by kernel_rfl) (by kernel_rfl) (view := false) (rvs := [.tmp 2]) (by kernel_rfl) (H := (H65 l)) 80 (by kernel_rfl) ?_
 have hL := loop65 l hl
 refine of_eq (q := True /\ True /\ True /\ True /\ True /\ True /\ LoopOK (X []) L65_0 { J := chk (0 : Nat) [(3 : Nat), (4 : Nat), (7 : Nat), (8 : Nat), (9 : Nat)] (inv65 l) (st65 l), exits := List.map (fun (x : List Nat × Ex) => x.snd) (ex65 l) } (RetR (X []) true false [ResultVar.tmp (2 : Tmp)] [AV.int .i64 (↑(chg l) : Int)] []) /\ (∃ (y : Nat × Nat × Int), inv65 l y /\ ((0 : Int) = (y.snd.fst : Int) /\ (0 : Int) = y.snd.snd /\ l = l /\ (l.length : Int) = (l.length : Int) /\ (0 : Int) = (y.fst : Int) /\ True) /\ True) /\ (∀ (y : Unit), True -> True /\ True /\ True /\ ((↑(chg l) : Int) = (↑(chg l) : Int) /\ True) /\ True) /\ True) (by kernel_rfl) ?_
 simp only [zz]
 exact ⟨hL _, ⟨(0, 0, 0), ⟨by simp, by simp [chg]⟩, by simp⟩, fun _ _ => trivial⟩
def e65 : Entry Tryd.prog gl := entry1 65 ⟨Tryd.f65, by kernel_rfl, by kernel_rfl, by kernel_rfl⟩ SF (fun l => l.length < 1000000) true (fun l => [.int .i64 (chg l)]) (fun _ => []) (call65)
def posL (l : List (Int × Int)) : Prop := ∀ x ∈ l, 0 < x.1
instance (l : List (Int × Int)) : Decidable (posL l) := by unfold posL; infer_instance
noncomputable def L72_0 : Code := lp (bodyOf Tryd.f72) 0
def st72 (l : List (Int × Int)) (k : Nat) : St := ⟨.sl Q2 l :: .dead :: .dead :: .int .i64 k :: dd 12, []⟩
def inv72 (l : List (Int × Int)) (k : Nat) : Prop := k <= l.length /\ ∀ x ∈ l.take k, 0 < x.1
def ex72 (l : List (Int × Int)) : List (List Nat × Ex) := [([], ⟨0, Unit, fun _ => posL l, fun _ => ⟨dd 16, []⟩⟩)]
noncomputable def H72 (l : List (Int × Int)) : Nat -> Option Hint := fun _ => some ⟨chk 0 [0, 3] (inv72 l) (st72 l), (ex72 l).map (·.2)⟩
theorem loop72 (l : List (Int × Int)) (hl : l.length < 1000000) : LoopOK (X []) L72_0 ⟨chk 0 [0, 3] (inv72 l) (st72 l), (ex72 l).map (·.2)⟩ (RetR (X []) true false [.tmp 2] [.bool (decide (posL l))] []) := by
 refine loop_ok (X_ok []) (H := fun _ _ => none) [0, 3] (inv72 l) (st72 l) (fun k => l.length - k) (ex72 l) 80 fun k hk => ?_
 refine of_eq (q := True /\ True /\ True /\ True /\ ((k : Int) < (l.length : Int) -> True /\ True /\ idxPre (k : Int) l.length /\ idxPre (0 : Int) (2 : Nat) /\ True /\ True /\ ((l.getD k (0, 0)).fst <= 0 -> True /\ True /\ (false = decide (posL l) /\ True) /\ True) /\ (¬(l.getD k (0, 0)).fst <= 0 -> True /\ inR .i64 ((k : Int) + 1) /\ True /\ ∃ (y : Nat), (inv72 l y /\ l.length - y < l.length - k) /\ (l = l /\ (k : Int) + 1 = (y : Int) /\ True) /\ True)) /\ (¬(k : Int) < (l.length : Int) -> ∃ (y : Unit), posL l /\ True /\ True)) (by kernel_rfl) ?_
 simp only [zz]
 refine ⟨fun h => ?_, fun h => ?_⟩
 · have h' : k < l.length := by omega
   have hm := mem_getD (d := (0, 0)) h'
   refine ⟨idx_nat h', i02, fun h1 => dff fun H => by have := H _ hm; omega, fun h1 => ⟨by simp only [inR]; omega, k + 1, ⟨⟨by omega, ?_⟩, by omega⟩, by simp⟩⟩
   rw [all_take (d := (0, 0)) h']; exact ⟨hk.2, by omega⟩
 · have := hk.2; rwa [List.take_of_length_le (by omega)] at this
theorem call72 (l : List (Int × Int)) (hl : l.length < 1000000) : GCall Tryd.prog gl 72 true [.sl Q2 l] [] [.bool (decide (posL l))] [] := by
 refine gcall_of (X := X []) (X_ok []) (f := 72) (fn := Tryd.f72) (c := bodyOf Tryd.f72) (by kernel_rfl) (by kernel_rfl) (view := false) (rvs := [.tmp 2]) (by kernel_rfl) (H := (H72 l)) 80 (by kernel_rfl) ?_
 have hL := loop72 l hl
 refine of_eq (q := True /\ True /\ LoopOK (X []) L72_0 { J := chk (0 : Nat) [(0 : Nat), (3 : Nat)] (inv72 l) (st72 l), exits := List.map (fun (x : List Nat × Ex) => x.snd) (ex72 l) } (RetR (X []) true false [ResultVar.tmp (2 : Tmp)] [AV.bool (decide (posL l))] []) /\ (∃ (y : Nat), inv72 l y /\ (l = l /\ (0 : Int) = (y : Int) /\ True) /\ True) /\ (∀ (y : Unit), posL l -> True /\ True /\ (true = decide (posL l) /\ True) /\ True) /\ True) (by kernel_rfl) ?_
 simp only [zz]
 exact ⟨hL, ⟨0, ⟨by omega, by simp⟩, rfl⟩, fun _ h => dtt h⟩
def e72 : Entry Tryd.prog gl := entry1 72 ⟨Tryd.f72, by kernel_rfl, by kernel_rfl, by kernel_rfl⟩ SQ (fun l => l.length < 1000000) true (fun l => [.bool (decide (posL l))]) (fun _ => []) (call72)
def cov : Int -> List (Int × Int) -> Prop
 | at', [] => at' = 64
 | at', x :: l => isPiece x /\ x.2 * 2 ^ (6 - x.1).toNat = at' /\ cov (at' + 2 ^ (6 - x.1).toNat) l
instance cov_dec : ∀ (at' : Int) (l : List (Int × Int)), Decidable (cov at' l)
 | _, [] => by unfold cov; infer_instance
 | at', x :: l => by unfold cov; have := cov_dec (at' + 2 ^ (6 - x.1).toNat) l; infer_instance
theorem piece_at {x : Int × Int} (h : isPiece x) : 0 <= x.2 * 2 ^ (6 - x.1).toNat /\ x.2 * 2 ^ (6 - x.1).toNat + 2 ^ (6 - x.1).toNat <= 64 /\ 1 <= (2 : Int) ^ (6 - x.1).toNat /\ (2 : Int) ^ (6 - x.1).toNat <= 64 := by
 obtain ⟨h1, h2, h3, h4⟩ := h
 have : x.1 = 0 ∨ x.1 = 1 ∨ x.1 = 2 ∨ x.1 = 3 ∨ x.1 = 4 ∨ x.1 = 5 ∨ x.1 = 6 := by omega
 rcases this with e | e | e | e | e | e | e <;> rw [e] at h4 |- <;> simp at h4 |- <;> omega
noncomputable def L73_0 : Code := lp (bodyOf Tryd.f73) 0
def st73 (l : List (Int × Int)) (p : Nat × Int) : St := ⟨.sl Q2 l :: .dead :: .dead :: .int .i64 p.2 :: .int .i64 p.1 :: dd 39, []⟩
def inv73 (l : List (Int × Int)) (p : Nat × Int) : Prop := p.1 <= l.length /\ (cov p.2 (l.drop p.1) ↔ cov 0 l) /\ 0 <= p.2 /\ p.2 <= 64
def ex73 (l : List (Int × Int)) : List (List Nat × Ex) := [([3], ⟨0, Int, fun m => m = 64 ↔ cov 0 l, fun m => ⟨.dead :: .dead :: .dead :: .int .i64 m :: dd 40, []⟩⟩)]
noncomputable def H73 (l : List (Int × Int)) : Nat -> Option Hint := fun _ => some ⟨chk 0 [0, 3, 4] (inv73 l) (st73 l), (ex73 l).map (·.2)⟩
theorem loop73 (l : List (Int × Int)) (hl : l.length < 1000000) : LoopOK (X [e14]) L73_0 ⟨chk 0 [0, 3, 4] (inv73 l) (st73 l), (ex73 l).map (·.2)⟩ (RetR (X [e14]) true false [.tmp 2] [.bool (decide (cov 0 l))] []) := by
 refine loop_ok (X_ok [e14]) (H := fun _ _ => none) [0, 3, 4] (inv73 l) (st73 l) (fun p => l.length - p.1) (ex73 l) 80 fun p hp => ?_
 refine of_eq (q := True /\ True /\ True /\ True /\ ((p.fst : Int) < (l.length : Int) -> True /\ True /\ idxPre (p.fst : Int) l.length /\ True /\ True /\ True /\ True /\ ((!decide (isPiece ((l.getD p.fst (0, 0)).fst, (l.getD p.fst (0, 0)).snd))) = true -> True /\ True /\ True /\ (false = decide (cov (0 : Int) l) /\ True) /\ True) /\ ((!decide (isPiece ((l.getD p.fst (0, 0)).fst, (l.getD p.fst (0, 0)).snd))) = false -> True /\ True /\ idxPre (p.fst : Int) l.length /\ idxPre (1 : Int) (2 : Nat) /\ True /\ True /\ True /\ idxPre (p.fst : Int) l.length /\ idxPre (0 : Int) (2 : Nat) /\ True /\ inR .i64 ((6 : Int) - (l.getD p.fst (0, 0)).fst) /\ (((0 : Int) <= 6 - (l.getD p.fst (0, 0)).fst /\ (6 : Int) - (l.getD p.fst (0, 0)).fst < bitsOf .i64) /\ (-9223372036854775808 : Int) <= (l.getD p.fst (0, 0)).snd * 2 ^ ((6 : Int) - (l.getD p.fst (0, 0)).fst).toNat /\ (l.getD p.fst (0, 0)).snd * 2 ^ ((6 : Int) - (l.getD p.fst (0, 0)).fst).toNat <= 9223372036854775807) /\ True /\ True /\ True /\ (¬(l.getD p.fst (0, 0)).snd * 2 ^ ((6 : Int) - (l.getD p.fst (0, 0)).fst).toNat = p.snd -> True /\ True /\ (false = decide (cov (0 : Int) l) /\ True) /\ True) /\ (¬¬(l.getD p.fst (0, 0)).snd * 2 ^ ((6 : Int) - (l.getD p.fst (0, 0)).fst).toNat = p.snd -> True /\ True /\ True /\ idxPre (p.fst : Int) l.length /\ idxPre (0 : Int) (2 : Nat) /\ True /\ inR .i64 ((6 : Int) - (l.getD p.fst (0, 0)).fst) /\ (((0 : Int) <= 6 - (l.getD p.fst (0, 0)).fst /\ (6 : Int) - (l.getD p.fst (0, 0)).fst < bitsOf .i64) /\ (-9223372036854775808 : Int) <= 1 * 2 ^ ((6 : Int) - (l.getD p.fst (0, 0)).fst).toNat /\ (1 : Int) * 2 ^ ((6 : Int) - (l.getD p.fst (0, 0)).fst).toNat <= 9223372036854775807) /\ inR .i64 (p.snd + 1 * 2 ^ ((6 : Int) - (l.getD p.fst (0, 0)).fst).toNat) /\ True /\ True /\ inR .i64 ((p.fst : Int) + 1) /\ True /\ ∃ (y : Nat × Int), (inv73 l y /\ l.length - y.fst < l.length - p.fst) /\ (l = l /\ p.snd + 1 * 2 ^ ((6 : Int) - (l.getD p.fst (0, 0)).fst).toNat = y.snd /\ (p.fst : Int) + 1 = (y.fst : Int) /\ True) /\ True))) /\ (¬(p.fst : Int) < (l.length : Int) -> ∃ (y : Int), (y = 64 ↔ cov (0 : Int) l) /\ (p.snd = y /\ True) /\ True)) (by kernel_rfl) ?_
 simp only [zz]
 obtain ⟨h1, h2, h3, h4⟩ := hp
 refine ⟨fun h => ?_, fun h => ⟨p.2, ?_, rfl⟩⟩
 · have h' : p.1 < l.length := by omega
   rw [drop_getD (d := (0, 0)) h'] at h2
   generalize l.getD p.1 (0, 0) = x at *
   rw [Int.one_mul]
   refine ⟨idx_nat h', fun h5 => dff fun h6 => ?_, fun h5 => ?_⟩
   · have := (h2.mpr h6).1
     simp [this] at h5
   · have hx : isPiece x := by
       have : ¬ (!decide (isPiece (x.1, x.2))) = true := by rw [h5]; simp
       simpa using this
     have hb := piece_at hx
     have hx' := hx
     unfold isPiece at hx'
     refine ⟨idx_nat h', i12, idx_nat h', i02, by simp only [inR]; omega, ⟨by simp only [bitsOf]; omega, by omega⟩, fun h6 => dff fun h7 => h6 (h2.mpr h7).2.1, fun h6 => ⟨idx_nat h', i02, by simp only [inR]; omega, ⟨by simp only [bitsOf]; omega, by omega⟩, by simp only [inR]; omega, by simp only [inR]; omega, (p.1 + 1, p.2 + 2 ^ (6 - x.1).toNat), ⟨⟨h', ?_, by simp only; omega, by simp only; omega⟩, by simp only; omega⟩, by simp⟩⟩
     rw [<- h2]
     exact ⟨fun h7 => ⟨hx, Classical.not_not.mp h6, h7⟩, fun h7 => h7.2.2⟩
 · rw [<- h2, List.drop_of_length_le (by omega)]; try rfl
theorem call73 (l : List (Int × Int)) (hl : l.length < 1000000) : GCall Tryd.prog gl 73 true [.sl Q2 l] [] [.bool (decide (cov 0 l))] [] := by
 refine gcall_of (X := X [e14]) (X_ok [e14]) (f := 73) (fn := Tryd.f73) (c := bodyOf Tryd.f73) (by kernel_rfl) (by kernel_rfl) (view := false) (rvs := [.tmp 2]) (by kernel_rfl) (H := (H73 l)) 80 (by kernel_rfl) ?_
 have hL := loop73 l hl
 refine of_eq (q := True /\ True /\ True /\ LoopOK (X [e14]) L73_0 { J := chk (0 : Nat) [(0 : Nat), (3 : Nat), (4 : Nat)] (inv73 l) (st73 l), exits := List.map (fun (x : List Nat × Ex) => x.snd) (ex73 l) } (RetR (X [e14]) true false [ResultVar.tmp (2 : Tmp)] [AV.bool (decide (cov (0 : Int) l))] []) /\ (∃ (y : Nat × Int), inv73 l y /\ (l = l /\ (0 : Int) = y.snd /\ (0 : Int) = (y.fst : Int) /\ True) /\ True) /\ (∀ (y : Int), (y = 64 ↔ cov (0 : Int) l) -> True /\ True /\ True /\ True /\ (decide (y = 64) = decide (cov (0 : Int) l) /\ True) /\ True) /\ True) (by kernel_rfl) ?_
 simp only [zz]
 exact ⟨hL, ⟨(0, 0), ⟨by simp, by simp, by simp, by simp⟩, by simp⟩, fun y h => ddd h⟩
def e73 : Entry Tryd.prog gl := entry1 73 ⟨Tryd.f73, by kernel_rfl, by kernel_rfl, by kernel_rfl⟩ SQ (fun l => l.length < 1000000) true (fun l => [.bool (decide (cov 0 l))]) (fun _ => []) (call73)
theorem call47 (r s : Rat) (h : addOk r (-s)) : GCall Tryd.prog gl 47 true [ofD Q2 (qp r), ofD Q2 (qp s)] [] [.bool (decide (r < s))] [] := by
 refine gcall_of (X := X [e86]) (X_ok [e86]) (f := 47) (fn := Tryd.f47) (c := bodyOf Tryd.f47) (by kernel_rfl) (by kernel_rfl) (view := false) (rvs := [.tmp 4]) (by kernel_rfl) (H := fun _ => none) 80 (by kernel_rfl) ?_
 refine of_eq (q := True /\ True /\ True /\ True /\ idxPre (0 : Int) (2 : Nat) /\ True /\ inR .i64 (-s.num) /\ idxPre (1 : Int) (2 : Nat) /\ True /\ True /\ ((good (r.num, (r.den : Int)) /\ good (-s.num, (s.den : Int)) /\ addOk (rat (r.num, (r.den : Int))) (rat (-s.num, (s.den : Int)))) /\ True) /\ idxPre (0 : Int) (2 : Nat) /\ True /\ True /\ True /\ (decide ((rat (r.num, (r.den : Int)) + rat (-s.num, (s.den : Int))).num < 0) = decide (r < s) /\ True) /\ True) (by kernel_rfl) ?_
 simp only [zz]
 have hb := h
 obtain ⟨D, M, N, hD, hD2, hr, hs, hMN⟩ := hb
 have q := hs.spec hD
 have q' := hr.spec hD
 have e : rat (-s.num, (s.den : Int)) = -s := rat_num_den (-s)
 have hM : 0 <= M := by obtain ⟨m, _, h1, h2⟩ := hr; omega
 simp only [Rat.neg_num] at q
 refine ⟨i02, by simp only [inR]; omega, i12, ⟨good_nd r, ?_, ?_⟩, i02, ?_⟩
 · exact good_nd (-s)
 · rw [e]; exact h
 · rw [e]
   refine ddd ?_
   rw [<- Rat.sub_eq_add_neg]
   have := @Rat.num_nonneg (r - s)
   have h2 := Rat.le_iff_sub_nonneg s r
   rw [<- Rat.not_le, h2, <- this]
   omega
def e47 : Entry Tryd.prog gl := entry2 47 ⟨Tryd.f47, by kernel_rfl, by kernel_rfl, by kernel_rfl⟩ Q2 Q2 (fun x y => good x /\ good y /\ addOk (rat x) (-rat y)) true (fun x y => [.bool (decide (rat x < rat y))]) (fun _ _ => []) (fun x y h => by have := call47 _ _ h.2.2; rwa [h.1, h.2.1] at this)
noncomputable def L15_0 : Code := lp (bodyOf Tryd.f15) 0
def st15 (l m : List (Int × Int)) (k : Nat) : St := ⟨.sl Q2 l :: .sl Q2 m :: .dead :: .dead :: .dead :: .int .i64 k :: dd 20, []⟩
def inv15 (l m : List (Int × Int)) (k : Nat) : Prop := k <= l.length /\ ∀ j, j < k -> l.getD j (0, 0) = m.getD j (0, 0)
def ex15 (l m : List (Int × Int)) : List (List Nat × Ex) := [([], ⟨0, Unit, fun _ => l = m, fun _ => ⟨dd 26, []⟩⟩)]
noncomputable def H15 (l m : List (Int × Int)) : Nat -> Option Hint := fun _ => some ⟨chk 0 [0, 1, 5] (inv15 l m) (st15 l m), (ex15 l m).map (·.2)⟩
theorem loop15 (l m : List (Int × Int)) (hl : l.length < 1000000) (hm : l.length = m.length) : LoopOK (X []) L15_0 ⟨chk 0 [0, 1, 5] (inv15 l m) (st15 l m), (ex15 l m).map (·.2)⟩ (RetR (X []) true false [.tmp 4] [.bool (decide (l = m))] []) := by
 refine loop_ok (X_ok []) (H := fun _ _ => none) [0, 1, 5] (inv15 l m) (st15 l m) (fun k => l.length - k) (ex15 l m) 80 fun k hk => ?_
 refine of_eq (q := True /\ True /\ True /\ True /\ ((k : Int) < (l.length : Int) -> True /\ True /\ idxPre (k : Int) l.length /\ True /\ True /\ True /\ idxPre (k : Int) m.length /\ True /\ True /\ (¬((l.getD k (0, 0)).fst, (l.getD k (0, 0)).snd) = ((m.getD k (0, 0)).fst, (m.getD k (0, 0)).snd) -> True /\ True /\ (false = decide (l = m) /\ True) /\ True) /\ (¬¬((l.getD k (0, 0)).fst, (l.getD k (0, 0)).snd) = ((m.getD k (0, 0)).fst, (m.getD k (0, 0)).snd) -> True /\ inR .i64 ((k : Int) + 1) /\ True /\ ∃ (y : Nat), (inv15 l m y /\ l.length - y < l.length - k) /\ (l = l /\ m = m /\ (k : Int) + 1 = (y : Int) /\ True) /\ True)) /\ (¬(k : Int) < (l.length : Int) -> ∃ (y : Unit), l = m /\ True /\ True)) (by kernel_rfl) ?_
 simp only [zz]
 obtain ⟨h1, h2⟩ := hk
 have e : ∀ x : Int × Int, (x.1, x.2) = x := fun x => rfl
 simp only [e]
 refine ⟨fun h => ?_, fun h => ?_⟩
 · refine ⟨idx_nat (by omega), idx_nat (by omega), fun h3 => dff fun h4 => h3 (by rw [h4]), fun h3 => ⟨by simp only [inR]; omega, k + 1, ⟨⟨by omega, fun j hj => ?_⟩, by omega⟩, by simp⟩⟩
   by_cases e : j = k
   · subst e; exact Classical.not_not.mp h3
   · exact h2 j (by omega)
 · exact ext_getD (d := (0, 0)) hm fun n hn => h2 n (by omega)
theorem call15 (l m : List (Int × Int)) (hl : l.length < 1000000) : GCall Tryd.prog gl 15 true [.sl Q2 l, .sl Q2 m] [] [.bool (decide (l = m))] [] := by
 refine gcall_of (X := X []) (X_ok []) (f := 15) (fn := Tryd.f15) (c := bodyOf Tryd.f15) (by kernel_rfl) (by kernel_rfl) (view := false) (rvs := [.tmp 4]) (by kernel_rfl) (H := (H15 l m)) 80 (by kernel_rfl) ?_
 have hL := loop15 l m hl
 have hL : l.length = m.length -> LoopOK (X []) L15_0 ⟨chk 0 [0, 1, 5] (inv15 l m) (st15 l m), (ex15 l m).map (·.2)⟩ (RetR (X []) true false [.tmp 4] [.bool (decide (l = m))] []) := by
   exact fun h => loop15 l m hl h
 refine of_eq (q := True /\ True /\ True /\ True /\ True /\ True /\ (¬(l.length : Int) = (m.length : Int) -> True /\ True /\ (false = decide (l = m) /\ True) /\ True) /\ (¬¬(l.length : Int) = (m.length : Int) -> True /\ LoopOK (X []) L15_0 { J := chk (0 : Nat) [(0 : Nat), (1 : Nat), (5 : Nat)] (inv15 l m) (st15 l m), exits := List.map (fun (x : List Nat × Ex) => x.snd) (ex15 l m) } (RetR (X []) true false [ResultVar.tmp (4 : Tmp)] [AV.bool (decide (l = m))] []) /\ (∃ (y : Nat), inv15 l m y /\ (l = l /\ m = m /\ (0 : Int) = (y : Int) /\ True) /\ True) /\ (∀ (y : Unit), l = m -> True /\ True /\ (true = decide (l = m) /\ True) /\ True) /\ True)) (by kernel_rfl) ?_
 simp only [zz]
 refine ⟨fun h => dff fun e => h (by rw [e]), fun h => ⟨?_, ⟨0, ⟨by omega, fun j hj => by omega⟩, rfl⟩, fun _ h => dtt h⟩⟩
 exact hL (by omega)
def e15 : Entry Tryd.prog gl := entry2 15 ⟨Tryd.f15, by kernel_rfl, by kernel_rfl, by kernel_rfl⟩ SQ SQ (fun l m => l.length < 1000000) true (fun l m => [.bool (decide (l = m))]) (fun _ _ => []) (call15)
end Go.Am.Bern

/- Bern: the reference's corners. -/
namespace Go.Am.Bern
open Go Go.Am Go.Proofs
noncomputable def L60_0 : Code := lp (bodyOf Tryd.f60) 0
noncomputable def L60_2 : Code := lp (bodyOf Tryd.f60) 2
def z0 : Ob := .bx (ofD Q2 (0, 0))
def qs (l : List Rat) : List (Int × Int) := l.map qp
theorem qs_length (l : List Rat) : (qs l).length = l.length := by simp [qs]
theorem qs_getD {l : List Rat} {k : Nat} (h : k < l.length) : (qs l).getD k (0, 0) = qp (l.getD k 0) := getD_map h
theorem whole_getD {p : List Int} {i : Nat} (h : i < p.length) : (whole p).getD i 0 = wsum p (p.length - 1) i (i + 1) := by
 rw [getD_lt (by rw [whole_length]; exact h)]
 simp [whole]
theorem whole_take {p : List Int} {i : Nat} (h : i < p.length) : (qs (whole p)).take (i + 1) = (qs (whole p)).take i ++ [qp (wsum p (p.length - 1) i (i + 1))] := by
 rw [take_getD (d := (0, 0)) (by rw [qs_length, whole_length]; exact h), qs_getD (by rw [whole_length]; exact h), whole_getD h]
/-- At the head of the outer loop: corners so far. -/
def sz60 (p : List Int) (_ : Unit) : St := ⟨.sl I64 p :: .dead :: .dead :: .int .i64 (p.length - 1 : Int) :: .vv (.slice none 0 0) :: .int .i64 0 :: dd 35, []⟩
def st60 (p : List Int) (i : Nat) : St := ⟨.sl I64 p :: .dead :: .dead :: .int .i64 (p.length - 1 : Int) :: .own 0 0 :: .int .i64 i :: dd 35, [.sc 0 48 Q2 ((qs (whole p)).take i)]⟩
/-- At the head of the inner loop. -/
def jz60 (p : List Int) (i : Nat) (k : Nat) : St := ⟨.sl I64 p :: .dead :: .dead :: .int .i64 (p.length - 1 : Int) :: .vv (.slice none 0 0) :: .int .i64 i :: .ptr 0 0 [] :: .int .i64 k :: dd 33, [.bx (ofD Q2 (qp (wsum p (p.length - 1) i k)))]⟩
def jt60 (p : List Int) (i : Nat) (k : Nat) : St := ⟨.sl I64 p :: .dead :: .dead :: .int .i64 (p.length - 1 : Int) :: .own 0 0 :: .int .i64 i :: .ptr 1 0 [] :: .int .i64 k :: dd 33, [.sc 0 48 Q2 ((qs (whole p)).take i), .bx (ofD Q2 (qp (wsum p (p.length - 1) i k)))]⟩
def fj60 (p : List Int) (i : Nat) : List Fam := [⟨Nat, fun k => i = 0 /\ k <= i + 1, jz60 p i, fun k => i + 1 - k, fun _ _ => none⟩, ⟨Nat, fun k => k <= i + 1, jt60 p i, fun k => i + 1 - k, fun _ _ => none⟩]
def ej60 (p : List Int) (i : Nat) : List (List Nat × Ex) := [
 ([0, 3, 4, 5, 6], ⟨2, Unit, fun _ => i = 0, fun _ => ⟨.sl I64 p :: .dead :: .dead :: .int .i64 (p.length - 1 : Int) :: .vv (.slice none 0 0) :: .int .i64 i :: .ptr 0 0 [] :: dd 34, [.bx (ofD Q2 (qp (wsum p (p.length - 1) i (i + 1))))]⟩⟩),
 ([0, 3, 4, 5, 6], ⟨2, Unit, fun _ => True, fun _ => ⟨.sl I64 p :: .dead :: .dead :: .int .i64 (p.length - 1 : Int) :: .own 0 0 :: .int .i64 i :: .ptr 1 0 [] :: dd 34, [.sc 0 48 Q2 ((qs (whole p)).take i), .bx (ofD Q2 (qp (wsum p (p.length - 1) i (i + 1))))]⟩⟩)]
noncomputable def H60j (p : List Int) (i : Nat) : Nat -> Option Hint := fun _ => some ⟨chks 0 [0, 3, 4, 5, 6, 7] (fj60 p i), (ej60 p i).map (·.2)⟩
noncomputable def fm60 (p : List Int) : List Fam := [⟨Unit, fun _ => True, sz60 p, fun _ => p.length + 1, fun _ => H60j p 0⟩, ⟨Nat, fun i => i <= p.length, st60 p, fun i => p.length - i, fun i => H60j p i⟩]
def ex60 (p : List Int) : List (List Nat × Ex) := [([4], ⟨0, Unit, fun _ => True, fun _ => ⟨.dead :: .dead :: .dead :: .dead :: .own 0 0 :: dd 36, [.sc 0 48 Q2 (qs (whole p))]⟩⟩)]
noncomputable def H60 (p : List Int) : Nat -> Option Hint := fun _ => some ⟨chks 0 [0, 3, 4, 5] (fm60 p), (ex60 p).map (·.2)⟩
theorem loop60_2 (p : List Int) (hp : isPoly p) (i : Nat) (hi : i < p.length) (R : Exit -> St -> Prop) : LoopOK (X [e88, e46, e86]) L60_2 ⟨chks 0 [0, 3, 4, 5, 6, 7] (fj60 p i), (ej60 p i).map (·.2)⟩ R := by
 refine loop_fams (X_ok [e88, e46, e86]) [0, 3, 4, 5, 6, 7] (fj60 p i) (ej60 p i) 80 ⟨fun (k : Nat) hk => ?_, fun (k : Nat) hk => ?_, trivial⟩
 · refine of_eq (q := True /\ True /\ True /\ ((k : Int) <= (i : Int) -> True /\ True /\ True /\ idxPre (k : Int) p.length /\ True /\ True /\ True /\ ((0 : Int) <= (k : Int) /\ (k : Int) <= (i : Int) /\ (i : Int) <= 6) /\ inR .i64 (p.getD k (0 : Int) * ch i k) /\ True /\ True /\ ((0 : Int) <= (k : Int) /\ (k : Int) <= (p.length : Int) - 1 /\ (p.length : Int) - 1 <= 6) /\ (small (p.getD k (0 : Int) * ch i k) /\ small (ch ((p.length : Int) - 1).toNat k)) /\ (good ((wsum p (p.length - 1) i k).num, (↑(wsum p (p.length - 1) i k).den : Int)) /\ good ((fracR (p.getD k (0 : Int) * ch i k) (ch ((p.length : Int) - 1).toNat k)).fst, (fracR (p.getD k (0 : Int) * ch i k) (ch ((p.length : Int) - 1).toNat k)).snd) /\ addOk (rat ((wsum p (p.length - 1) i k).num, (↑(wsum p (p.length - 1) i k).den : Int))) (rat ((fracR (p.getD k (0 : Int) * ch i k) (ch ((p.length : Int) - 1).toNat k)).fst, (fracR (p.getD k (0 : Int) * ch i k) (ch ((p.length : Int) - 1).toNat k)).snd))) /\ True /\ True /\ inR .i64 ((k : Int) + 1) /\ True /\ ((∃ (y : Nat), ((i = 0 /\ y <= i + 1) /\ i + 1 - y < i + 1 - k) /\ (p = p /\ (p.length : Int) - 1 = (p.length : Int) - 1 /\ True /\ (i : Int) = (i : Int) /\ True /\ (k : Int) + 1 = (y : Int) /\ True) /\ [(rat ((wsum p (p.length - 1) i k).num, (↑(wsum p (p.length - 1) i k).den : Int)) + rat ((fracR (p.getD k (0 : Int) * ch i k) (ch ((p.length : Int) - 1).toNat k)).fst, (fracR (p.getD k (0 : Int) * ch i k) (ch ((p.length : Int) - 1).toNat k)).snd)).num, (↑(rat ((wsum p (p.length - 1) i k).num, (↑(wsum p (p.length - 1) i k).den : Int)) + rat ((fracR (p.getD k (0 : Int) * ch i k) (ch ((p.length : Int) - 1).toNat k)).fst, (fracR (p.getD k (0 : Int) * ch i k) (ch ((p.length : Int) - 1).toNat k)).snd)).den : Int)] = [(wsum p (p.length - 1) i y).num, (↑(wsum p (p.length - 1) i y).den : Int)] /\ True) ∨ ∃ (y : Nat), (y <= i + 1 /\ i + 1 - y < i + 1 - k) /\ (p = p /\ (p.length : Int) - 1 = (p.length : Int) - 1 /\ False /\ (i : Int) = (i : Int) /\ False /\ (k : Int) + 1 = (y : Int) /\ True) /\ False /\ False)) /\ (¬(k : Int) <= (i : Int) -> (∃ (y : Unit), i = 0 /\ (p = p /\ (p.length : Int) - 1 = (p.length : Int) - 1 /\ True /\ (i : Int) = (i : Int) /\ True /\ True) /\ [(wsum p (p.length - 1) i k).num, (↑(wsum p (p.length - 1) i k).den : Int)] = [(wsum p (p.length - 1) i (i + 1)).num, (↑(wsum p (p.length - 1) i (i + 1)).den : Int)] /\ True) ∨ ∃ (y : Unit), True /\ (p = p /\ (p.length : Int) - 1 = (p.length : Int) - 1 /\ False /\ (i : Int) = (i : Int) /\ False /\ True) /\ False /\ False)) (by kernel_rfl) ?_
   simp only [zz]
   unfold isPoly at hp
   have en : ((p.length : Int) - 1).toNat = p.length - 1 := by omega
   rw [en]
   have hle : k <= i + 1 := hk.2
   refine ⟨fun h => ?_, fun h => ?_⟩
   · have hc := ch_facts (n := p.length - 1) (k := k) (by omega) (by omega)
     have ht := term_num hp.2.2 (i := i) (k := k) (by omega) (by omega)
     have hf : fracR (p.getD k 0 * ch i k) (ch (p.length - 1) k) = qp (term p (p.length - 1) i k) := fracR_eq (by omega)
     rw [hf]
     simp only [qp_fst, qp_snd, rat_num_den]
     exact ⟨idx_nat (by omega), by omega, by simp only [inR]; omega, by omega, ⟨by unfold small; omega, by unfold small; omega⟩, ⟨good_nd _, good_nd _, wsum_ok hp.2.2 (by omega) (by omega) (by omega)⟩, by simp only [inR]; omega, k + 1, by omega, by simp, rfl⟩
   · rw [show k = i + 1 by omega]; exact ⟨hk.1, rfl⟩
 · refine of_eq (q := True /\ True /\ True /\ ((k : Int) <= (i : Int) -> True /\ True /\ True /\ idxPre (k : Int) p.length /\ True /\ True /\ True /\ ((0 : Int) <= (k : Int) /\ (k : Int) <= (i : Int) /\ (i : Int) <= 6) /\ inR .i64 (p.getD k (0 : Int) * ch i k) /\ True /\ True /\ ((0 : Int) <= (k : Int) /\ (k : Int) <= (p.length : Int) - 1 /\ (p.length : Int) - 1 <= 6) /\ (small (p.getD k (0 : Int) * ch i k) /\ small (ch ((p.length : Int) - 1).toNat k)) /\ (good ((wsum p (p.length - 1) i k).num, (↑(wsum p (p.length - 1) i k).den : Int)) /\ good ((fracR (p.getD k (0 : Int) * ch i k) (ch ((p.length : Int) - 1).toNat k)).fst, (fracR (p.getD k (0 : Int) * ch i k) (ch ((p.length : Int) - 1).toNat k)).snd) /\ addOk (rat ((wsum p (p.length - 1) i k).num, (↑(wsum p (p.length - 1) i k).den : Int))) (rat ((fracR (p.getD k (0 : Int) * ch i k) (ch ((p.length : Int) - 1).toNat k)).fst, (fracR (p.getD k (0 : Int) * ch i k) (ch ((p.length : Int) - 1).toNat k)).snd))) /\ True /\ True /\ inR .i64 ((k : Int) + 1) /\ True /\ ((∃ (y : Nat), ((i = 0 /\ y <= i + 1) /\ i + 1 - y < i + 1 - k) /\ (p = p /\ (p.length : Int) - 1 = (p.length : Int) - 1 /\ False /\ (i : Int) = (i : Int) /\ False /\ (k : Int) + 1 = (y : Int) /\ True) /\ False /\ True) ∨ ∃ (y : Nat), (y <= i + 1 /\ i + 1 - y < i + 1 - k) /\ (p = p /\ (p.length : Int) - 1 = (p.length : Int) - 1 /\ True /\ (i : Int) = (i : Int) /\ True /\ (k : Int) + 1 = (y : Int) /\ True) /\ List.take i (qs (whole p)) = List.take i (qs (whole p)) /\ [(rat ((wsum p (p.length - 1) i k).num, (↑(wsum p (p.length - 1) i k).den : Int)) + rat ((fracR (p.getD k (0 : Int) * ch i k) (ch ((p.length : Int) - 1).toNat k)).fst, (fracR (p.getD k (0 : Int) * ch i k) (ch ((p.length : Int) - 1).toNat k)).snd)).num, (↑(rat ((wsum p (p.length - 1) i k).num, (↑(wsum p (p.length - 1) i k).den : Int)) + rat ((fracR (p.getD k (0 : Int) * ch i k) (ch ((p.length : Int) - 1).toNat k)).fst, (fracR (p.getD k (0 : Int) * ch i k) (ch ((p.length : Int) - 1).toNat k)).snd)).den : Int)] = [(wsum p (p.length - 1) i y).num, (↑(wsum p (p.length - 1) i y).den : Int)] /\ True)) /\ (¬(k : Int) <= (i : Int) -> (∃ (y : Unit), i = 0 /\ (p = p /\ (p.length : Int) - 1 = (p.length : Int) - 1 /\ False /\ (i : Int) = (i : Int) /\ False /\ True) /\ False /\ True) ∨ ∃ (y : Unit), True /\ (p = p /\ (p.length : Int) - 1 = (p.length : Int) - 1 /\ True /\ (i : Int) = (i : Int) /\ True /\ True) /\ List.take i (qs (whole p)) = List.take i (qs (whole p)) /\ [(wsum p (p.length - 1) i k).num, (↑(wsum p (p.length - 1) i k).den : Int)] = [(wsum p (p.length - 1) i (i + 1)).num, (↑(wsum p (p.length - 1) i (i + 1)).den : Int)] /\ True)) (by kernel_rfl) ?_
   simp only [zz]
   unfold isPoly at hp
   have en : ((p.length : Int) - 1).toNat = p.length - 1 := by omega
   rw [en]
   have hle : k <= i + 1 := hk
   refine ⟨fun h => ?_, fun h => ?_⟩
   · have hc := ch_facts (n := p.length - 1) (k := k) (by omega) (by omega)
     have ht := term_num hp.2.2 (i := i) (k := k) (by omega) (by omega)
     have hf : fracR (p.getD k 0 * ch i k) (ch (p.length - 1) k) = qp (term p (p.length - 1) i k) := fracR_eq (by omega)
     rw [hf]
     simp only [qp_fst, qp_snd, rat_num_den]
     exact ⟨idx_nat (by omega), by omega, by simp only [inR]; omega, by omega, ⟨by unfold small; omega, by unfold small; omega⟩, ⟨good_nd _, good_nd _, wsum_ok hp.2.2 (by omega) (by omega) (by omega)⟩, by simp only [inR]; omega, k + 1, by omega, by simp, rfl⟩
   · rw [show k = i + 1 by omega]
theorem loop60 (p : List Int) (hp : isPoly p) (R : Exit -> St -> Prop) : LoopOK (X [e88, e46, e86]) L60_0 ⟨chks 0 [0, 3, 4, 5] (fm60 p), (ex60 p).map (·.2)⟩ R := by
 refine loop_fams (X_ok [e88, e46, e86]) [0, 3, 4, 5] (fm60 p) (ex60 p) 80 ⟨fun _ _ => ?_, fun (i : Nat) hi => ?_, trivial⟩
 · have h0 : 0 < p.length := hp.1
   have hL := loop60_2 p hp 0 h0
   refine of_eq (q := True /\ True /\ True /\ ((0 : Int) <= (p.length : Int) - 1 -> True /\ True /\ True /\ True /\ LoopOK (X [e88, e46, e86]) L60_2 { J := chks (0 : Nat) [(0 : Nat), (3 : Nat), (4 : Nat), (5 : Nat), (6 : Nat), (7 : Nat)] (fj60 p (0 : Nat)), exits := List.map (fun (x : List Nat × Ex) => x.snd) (ej60 p (0 : Nat)) } (bodyR (X [e88, e46, e86]).m0 (ex60 p) R) /\ ((∃ (y : Nat), ((0 : Nat) = 0 /\ y <= 1) /\ (p = p /\ (p.length : Int) - 1 = (p.length : Int) - 1 /\ True /\ (0 : Int) = 0 /\ True /\ (0 : Int) = (y : Int) /\ True) /\ [(0 : Int), (1 : Int)] = [(wsum p (p.length - 1) (0 : Nat) y).num, (↑(wsum p (p.length - 1) (0 : Nat) y).den : Int)] /\ True) ∨ ∃ (y : Nat), y <= 1 /\ (p = p /\ (p.length : Int) - 1 = (p.length : Int) - 1 /\ False /\ (0 : Int) = 0 /\ False /\ (0 : Int) = (y : Int) /\ True) /\ False /\ False) /\ (∀ (y : Unit), (0 : Nat) = 0 -> True /\ True /\ True /\ sumPre (0 : Nat) [((wsum p (p.length - 1) (0 : Nat) (1 : Nat)).num, (↑(wsum p (p.length - 1) (0 : Nat) (1 : Nat)).den : Int))].length (nat_lit 16) /\ True /\ True /\ inR .i64 (1 : Int) /\ True /\ ((∃ (y : Unit), (True /\ p.length + 1 < p.length + 1) /\ (p = p /\ (p.length : Int) - 1 = (p.length : Int) - 1 /\ False /\ (1 : Int) = 0 /\ True) /\ True) ∨ ∃ (y : Nat), (y <= p.length /\ p.length - y < p.length + 1) /\ (p = p /\ (p.length : Int) - 1 = (p.length : Int) - 1 /\ True /\ (1 : Int) = (y : Int) /\ True) /\ [((wsum p (p.length - 1) (0 : Nat) (1 : Nat)).num, (↑(wsum p (p.length - 1) (0 : Nat) (1 : Nat)).den : Int))] = List.take y (qs (whole p)) /\ True)) /\ (∀ (y : Unit), True -> True /\ True /\ True /\ sumPre ([] : List Int).length [((wsum p (p.length - 1) (0 : Nat) (1 : Nat)).num, (↑(wsum p (p.length - 1) (0 : Nat) (1 : Nat)).den : Int))].length (nat_lit 16) /\ True /\ True /\ inR .i64 (1 : Int) /\ True /\ ((∃ (y : Unit), (True /\ p.length + 1 < p.length + 1) /\ (p = p /\ (p.length : Int) - 1 = (p.length : Int) - 1 /\ False /\ (1 : Int) = 0 /\ True) /\ True) ∨ ∃ (y : Nat), (y <= p.length /\ p.length - y < p.length + 1) /\ (p = p /\ (p.length : Int) - 1 = (p.length : Int) - 1 /\ True /\ (1 : Int) = (y : Int) /\ True) /\ [] ++ [((wsum p (p.length - 1) (0 : Nat) (1 : Nat)).num, (↑(wsum p (p.length - 1) (0 : Nat) (1 : Nat)).den : Int))] = List.take y (qs (whole p)) /\ True)) /\ True) /\ (¬(0 : Int) <= (p.length : Int) - 1 -> ∃ (y : Unit), True /\ (False /\ True) /\ False)) (by kernel_rfl) ?_
   simp only [zz]
   unfold isPoly at hp
   have hs := whole_take h0
   simp only [Nat.zero_add, List.take_zero, List.nil_append] at hs
   refine ⟨fun _ => ⟨hL _, ⟨0, by omega, rfl, rfl⟩, fun _ _ => ⟨by unfold sumPre; simp, by simp only [inR]; omega, 1, by omega, rfl, hs.symm⟩, fun _ _ => ⟨by unfold sumPre; simp, by simp only [inR]; omega, 1, by omega, rfl, hs.symm⟩⟩, fun h => h (by omega)⟩
 · have hL := loop60_2 p hp i
   refine of_eq (q := True /\ True /\ True /\ ((i : Int) <= (p.length : Int) - 1 -> True /\ True /\ True /\ True /\ LoopOK (X [e88, e46, e86]) L60_2 { J := chks (0 : Nat) [(0 : Nat), (3 : Nat), (4 : Nat), (5 : Nat), (6 : Nat), (7 : Nat)] (fj60 p i), exits := List.map (fun (x : List Nat × Ex) => x.snd) (ej60 p i) } (bodyR (X [e88, e46, e86]).m0 (ex60 p) R) /\ ((∃ (y : Nat), (i = 0 /\ y <= i + 1) /\ (p = p /\ (p.length : Int) - 1 = (p.length : Int) - 1 /\ False /\ (i : Int) = (i : Int) /\ False /\ (0 : Int) = (y : Int) /\ True) /\ False /\ True) ∨ ∃ (y : Nat), y <= i + 1 /\ (p = p /\ (p.length : Int) - 1 = (p.length : Int) - 1 /\ True /\ (i : Int) = (i : Int) /\ True /\ (0 : Int) = (y : Int) /\ True) /\ List.take i (qs (whole p)) = List.take i (qs (whole p)) /\ [(0 : Int), (1 : Int)] = [(wsum p (p.length - 1) i y).num, (↑(wsum p (p.length - 1) i y).den : Int)] /\ True) /\ (∀ (y : Unit), i = 0 -> True /\ True /\ True /\ sumPre (0 : Nat) [((wsum p (p.length - 1) i (i + 1)).num, (↑(wsum p (p.length - 1) i (i + 1)).den : Int))].length (nat_lit 16) /\ True /\ True /\ inR .i64 ((i : Int) + 1) /\ True /\ ((∃ (y : Unit), (True /\ p.length + 1 < p.length - i) /\ (p = p /\ (p.length : Int) - 1 = (p.length : Int) - 1 /\ False /\ (i : Int) + 1 = 0 /\ True) /\ True) ∨ ∃ (y : Nat), (y <= p.length /\ p.length - y < p.length - i) /\ (p = p /\ (p.length : Int) - 1 = (p.length : Int) - 1 /\ True /\ (i : Int) + 1 = (y : Int) /\ True) /\ [((wsum p (p.length - 1) i (i + 1)).num, (↑(wsum p (p.length - 1) i (i + 1)).den : Int))] = List.take y (qs (whole p)) /\ True)) /\ (∀ (y : Unit), True -> True /\ True /\ True /\ sumPre (List.take i (qs (whole p))).length [((wsum p (p.length - 1) i (i + 1)).num, (↑(wsum p (p.length - 1) i (i + 1)).den : Int))].length (nat_lit 16) /\ True /\ True /\ inR .i64 ((i : Int) + 1) /\ True /\ ((∃ (y : Unit), (True /\ p.length + 1 < p.length - i) /\ (p = p /\ (p.length : Int) - 1 = (p.length : Int) - 1 /\ False /\ (i : Int) + 1 = 0 /\ True) /\ True) ∨ ∃ (y : Nat), (y <= p.length /\ p.length - y < p.length - i) /\ (p = p /\ (p.length : Int) - 1 = (p.length : Int) - 1 /\ True /\ (i : Int) + 1 = (y : Int) /\ True) /\ List.take i (qs (whole p)) ++ [((wsum p (p.length - 1) i (i + 1)).num, (↑(wsum p (p.length - 1) i (i + 1)).den : Int))] = List.take y (qs (whole p)) /\ True)) /\ True) /\ (¬(i : Int) <= (p.length : Int) - 1 -> ∃ (y : Unit), True /\ (True /\ True) /\ List.take i (qs (whole p)) = qs (whole p) /\ True)) (by kernel_rfl) ?_
   simp only [zz]
   unfold isPoly at hp
   have hi' : i <= p.length := hi
   have hln : (qs (whole p)).length = p.length := by rw [qs_length, whole_length]
   refine ⟨fun h => ?_, fun h => by rw [List.take_of_length_le (by omega)]⟩
   have hs := whole_take (p := p) (i := i) (by omega)
   refine ⟨hL (by omega) _, ⟨0, by omega, rfl, rfl⟩, fun _ h0 => ⟨by unfold sumPre; simp, by simp only [inR]; omega, i + 1, by omega, by omega, ?_⟩, fun _ _ => ⟨by unfold sumPre; simp; omega, by simp only [inR]; omega, i + 1, by omega, by omega, hs.symm⟩⟩
   rw [hs, h0]; try rfl
theorem call60 (p : List Int) (hp : isPoly p) : GCall Tryd.prog gl 60 false [.sl I64 p] [] [.sl Q2 (qs (whole p))] [] := by
 refine gcall_of (X := X [e88,e46,e86]) (X_ok [e88,e46,e86]) (f := 60) (fn := Tryd.f60) (c := bodyOf Tryd.f60) (by kernel_rfl) (by kernel_rfl) (view := true) (rvs := [.tmp 2]) (by kernel_rfl) (H := (H60 p)) 80 (by kernel_rfl) ?_
 have hL := loop60 p hp
 refine of_eq (q := True /\ True /\ True /\ inR .i64 ((p.length : Int) - 1) /\ True /\ True /\ True /\ LoopOK (X [e88, e46, e86]) L60_0 { J := chks (0 : Nat) [(0 : Nat), (3 : Nat), (4 : Nat), (5 : Nat)] (fm60 p), exits := List.map (fun (x : List Nat × Ex) => x.snd) (ex60 p) } (RetR (X [e88, e46, e86]) false true [ResultVar.tmp (2 : Tmp)] [AV.sl Q2 (qs (whole p))] []) /\ ((∃ (y : Unit), True /\ (p = p /\ (p.length : Int) - 1 = (p.length : Int) - 1 /\ True /\ (0 : Int) = 0 /\ True) /\ True) ∨ ∃ (y : Nat), y <= p.length /\ (p = p /\ (p.length : Int) - 1 = (p.length : Int) - 1 /\ False /\ (0 : Int) = (y : Int) /\ True) /\ False) /\ (∀ (y : Unit), True -> True /\ True /\ True /\ (qs (whole p) = qs (whole p) /\ True) /\ True) /\ True) (by kernel_rfl) ?_
 simp only [zz]
 have := hp.2.1
 exact ⟨by simp only [inR]; omega, hL _, fun _ _ => trivial⟩
def e60 : Entry Tryd.prog gl := entry1 60 ⟨Tryd.f60, by kernel_rfl, by kernel_rfl, by kernel_rfl⟩ SI (fun p => isPoly p) false (fun p => [.sl Q2 (qs (whole p))]) (fun _ => []) (call60)
end Go.Am.Bern

/- Bern: the reference's divisions. -/
namespace Go.Am.Bern
open Go Go.Am Go.Proofs
noncomputable def L40_0 : Code := lp (bodyOf Tryd.f40) 0
noncomputable def L40_2 : Code := lp (bodyOf Tryd.f40) 2
def bx40 (x : Rat) : Ob := .bx (ofD Q2 (qp x))
def sq48 (l : List Rat) : Ob := .sc 0 48 Q2 (qs l)
def nl : AV := .vv (.slice none 0 0)
noncomputable def X40 : Cy := Xd [e87, e86] (drOf [(10, 23)])
theorem X40_ok : X40.Ok := Xd_ok _ _
structure P3 where
 row : List Rat
 left : List Rat
 right : List Rat
def f40a (x : Rat) (p : P3) : St := ⟨.dead :: .dead :: .dead :: .ptr 0 0 [] :: .dead :: .dead :: .sl Q2 (qs p.row) :: nl :: nl :: dd 56, [bx40 x]⟩
def f40b (x : Rat) (p : P3) : St := ⟨.dead :: .dead :: .dead :: .ptr 0 0 [] :: .dead :: .dead :: .own 1 0 :: .own 2 0 :: .own 3 0 :: dd 56, [bx40 x, sq48 p.row, sq48 p.left, sq48 p.right]⟩
def f40c (x : Rat) (p : P3) : St := ⟨.dead :: .dead :: .dead :: .ptr 0 0 [] :: .dead :: .dead :: nl :: .own 1 0 :: .own 2 0 :: dd 56, [bx40 x, sq48 p.left, sq48 p.right]⟩
/-- The inner loop: the next row. v: the row is looked at. -/
def j40a (x : Rat) (p : P3) (v : Bool) (_ : Unit) : St := match v with
 | true => ⟨.dead :: .dead :: .dead :: .ptr 0 0 [] :: .dead :: .dead :: .sl Q2 (qs p.row) :: .own 1 0 :: .own 2 0 :: nl :: .int .i64 1 :: dd 54, [bx40 x, sq48 p.left, sq48 p.right]⟩
 | false => ⟨.dead :: .dead :: .dead :: .ptr 0 0 [] :: .dead :: .dead :: .own 1 0 :: .own 2 0 :: .own 3 0 :: nl :: .int .i64 1 :: dd 54, [bx40 x, sq48 p.row, sq48 p.left, sq48 p.right]⟩
def j40b (x : Rat) (p : P3) (v : Bool) (k : Nat) : St := match v with
 | true => ⟨.dead :: .dead :: .dead :: .ptr 0 0 [] :: .dead :: .dead :: .sl Q2 (qs p.row) :: .own 1 0 :: .own 2 0 :: .own 3 0 :: .int .i64 (k + 1 : Int) :: dd 54, [bx40 x, sq48 p.left, sq48 p.right, sq48 ((dcs x p.row).take k)]⟩
 | false => ⟨.dead :: .dead :: .dead :: .ptr 0 0 [] :: .dead :: .dead :: .own 1 0 :: .own 2 0 :: .own 3 0 :: .own 4 0 :: .int .i64 (k + 1 : Int) :: dd 54, [bx40 x, sq48 p.row, sq48 p.left, sq48 p.right, sq48 ((dcs x p.row).take k)]⟩
def fj40 (x : Rat) (p : P3) (v : Bool) : List Fam := [⟨Unit, fun _ => True, j40a x p v, fun _ => p.row.length + 1, fun _ _ => none⟩, ⟨Nat, fun k => 1 <= k /\ k + 1 <= p.row.length, j40b x p v, fun k => p.row.length - k, fun _ _ => none⟩]
def ej40 (x : Rat) (p : P3) : List (List Nat × Ex) := [
 ([3, 7, 8, 9], ⟨2, Unit, fun _ => p.row.length = 1, fun _ => ⟨.dead :: .dead :: .dead :: .ptr 0 0 [] :: .dead :: .dead :: .dead :: .own 1 0 :: .own 2 0 :: nl :: dd 55, [bx40 x, sq48 p.left, sq48 p.right]⟩⟩),
 ([3, 7, 8, 9], ⟨2, Unit, fun _ => 2 <= p.row.length, fun _ => ⟨.dead :: .dead :: .dead :: .ptr 0 0 [] :: .dead :: .dead :: .dead :: .own 1 0 :: .own 2 0 :: .own 3 0 :: dd 55, [bx40 x, sq48 p.left, sq48 p.right, sq48 (dcs x p.row)]⟩⟩)]
noncomputable def Hj40 (x : Rat) (p : P3) (v : Bool) : Nat -> Option Hint := fun _ => some ⟨chks 0 [3, 6, 7, 8, 9, 10] (fj40 x p v), (ej40 x p).map (·.2)⟩
def nx (p : P3) : P3 := ⟨p.row, p.left ++ [p.row.getD 0 0], p.row.getD (p.row.length - 1) 0 :: p.right⟩
theorem rat_sub (x : Rat) : rat ((x.den : Int) - x.num, (x.den : Int)) = 1 - x := by
 have := sub_self_num x
 rw [<- this, rat_qp]
theorem good_sub (x : Rat) : good ((x.den : Int) - x.num, (x.den : Int)) := by
 unfold good; rw [rat_sub, sub_self_num]
theorem loop40_2 (x : Rat) (p : P3) (v : Bool) (D M b : Int) (l left right : List Rat) (h : Dv D M b x l) (r : Rw D M b x l p.row left right) (h0 : 1 <= p.row.length) (R : Exit -> St -> Prop) :
   LoopOK X40 L40_2 ⟨chks 0 [3, 6, 7, 8, 9, 10] (fj40 x p v), (ej40 x p).map (·.2)⟩ R := by
 have hlr : p.row.length <= 7 := by have := r.len; have := h.len; omega
 have hq := qs_length p.row
 have sx : small (x.den - x.num) := by
   have h1 := h.pow (j := 1) (by omega)
   have hD := h.hD; have hb := h.hb; have hx := h.hx
   have hb1 := h.b1
   have := Int.mul_le_mul_of_nonneg_right (show 1 <= D by omega) (show 0 <= b by omega)
   unfold small; simp only [Int.pow_one] at h1 this; omega
 cases v with
 | true =>
   refine loop_fams X40_ok [3, 6, 7, 8, 9, 10] (fj40 x p true) (ej40 x p) 80 ⟨fun _ _ => ?_, fun (k : Nat) hk => ?_, trivial⟩
   · refine of_eq (q := True /\ True /\ True /\ True /\ ((1 : Int) < (↑(qs p.row).length : Int) -> True /\ True /\ True /\ inR .i64 (0 : Int) /\ idxPre (0 : Int) (qs p.row).length /\ True /\ idxPre (1 : Int) (2 : Nat) /\ True /\ idxPre (0 : Int) (2 : Nat) /\ True /\ inR .i64 ((x.den : Int) - x.num) /\ idxPre (1 : Int) (2 : Nat) /\ True /\ True /\ (good (((qs p.row).getD (0 : Nat) (0, 0)).fst, ((qs p.row).getD (0 : Nat) (0, 0)).snd) /\ good ((x.den : Int) - x.num, (x.den : Int)) /\ mulOk (rat (((qs p.row).getD (0 : Nat) (0, 0)).fst, ((qs p.row).getD (0 : Nat) (0, 0)).snd)) (rat ((x.den : Int) - x.num, (x.den : Int)))) /\ True /\ True /\ idxPre (1 : Int) (qs p.row).length /\ True /\ True /\ (good (((qs p.row).getD (1 : Nat) (0, 0)).fst, ((qs p.row).getD (1 : Nat) (0, 0)).snd) /\ good (x.num, (x.den : Int)) /\ mulOk (rat (((qs p.row).getD (1 : Nat) (0, 0)).fst, ((qs p.row).getD (1 : Nat) (0, 0)).snd)) (rat (x.num, (x.den : Int)))) /\ (good ((rat (((qs p.row).getD (0 : Nat) (0, 0)).fst, ((qs p.row).getD (0 : Nat) (0, 0)).snd) * rat ((x.den : Int) - x.num, (x.den : Int))).num, (↑(rat (((qs p.row).getD (0 : Nat) (0, 0)).fst, ((qs p.row).getD (0 : Nat) (0, 0)).snd) * rat ((x.den : Int) - x.num, (x.den : Int))).den : Int)) /\ good ((rat (((qs p.row).getD (1 : Nat) (0, 0)).fst, ((qs p.row).getD (1 : Nat) (0, 0)).snd) * rat (x.num, (x.den : Int))).num, (↑(rat (((qs p.row).getD (1 : Nat) (0, 0)).fst, ((qs p.row).getD (1 : Nat) (0, 0)).snd) * rat (x.num, (x.den : Int))).den : Int)) /\ addOk (rat ((rat (((qs p.row).getD (0 : Nat) (0, 0)).fst, ((qs p.row).getD (0 : Nat) (0, 0)).snd) * rat ((x.den : Int) - x.num, (x.den : Int))).num, (↑(rat (((qs p.row).getD (0 : Nat) (0, 0)).fst, ((qs p.row).getD (0 : Nat) (0, 0)).snd) * rat ((x.den : Int) - x.num, (x.den : Int))).den : Int))) (rat ((rat (((qs p.row).getD (1 : Nat) (0, 0)).fst, ((qs p.row).getD (1 : Nat) (0, 0)).snd) * rat (x.num, (x.den : Int))).num, (↑(rat (((qs p.row).getD (1 : Nat) (0, 0)).fst, ((qs p.row).getD (1 : Nat) (0, 0)).snd) * rat (x.num, (x.den : Int))).den : Int)))) /\ True /\ sumPre (0 : Nat) [((rat ((rat (((qs p.row).getD (0 : Nat) (0, 0)).fst, ((qs p.row).getD (0 : Nat) (0, 0)).snd) * rat ((x.den : Int) - x.num, (x.den : Int))).num, (↑(rat (((qs p.row).getD (0 : Nat) (0, 0)).fst, ((qs p.row).getD (0 : Nat) (0, 0)).snd) * rat ((x.den : Int) - x.num, (x.den : Int))).den : Int)) + rat ((rat (((qs p.row).getD (1 : Nat) (0, 0)).fst, ((qs p.row).getD (1 : Nat) (0, 0)).snd) * rat (x.num, (x.den : Int))).num, (↑(rat (((qs p.row).getD (1 : Nat) (0, 0)).fst, ((qs p.row).getD (1 : Nat) (0, 0)).snd) * rat (x.num, (x.den : Int))).den : Int))).num, (↑(rat ((rat (((qs p.row).getD (0 : Nat) (0, 0)).fst, ((qs p.row).getD (0 : Nat) (0, 0)).snd) * rat ((x.den : Int) - x.num, (x.den : Int))).num, (↑(rat (((qs p.row).getD (0 : Nat) (0, 0)).fst, ((qs p.row).getD (0 : Nat) (0, 0)).snd) * rat ((x.den : Int) - x.num, (x.den : Int))).den : Int)) + rat ((rat (((qs p.row).getD (1 : Nat) (0, 0)).fst, ((qs p.row).getD (1 : Nat) (0, 0)).snd) * rat (x.num, (x.den : Int))).num, (↑(rat (((qs p.row).getD (1 : Nat) (0, 0)).fst, ((qs p.row).getD (1 : Nat) (0, 0)).snd) * rat (x.num, (x.den : Int))).den : Int))).den : Int))].length (nat_lit 16) /\ True /\ True /\ inR .i64 (2 : Int) /\ True /\ ((∃ (y : Unit), (True /\ p.row.length + 1 < p.row.length + 1) /\ (True /\ qs p.row = qs p.row /\ True /\ True /\ False /\ (2 : Int) = 1 /\ True) /\ [x.num, (x.den : Int)] = [x.num, (x.den : Int)] /\ qs p.left = qs p.left /\ qs p.right = qs p.right /\ True) ∨ ∃ (y : Nat), (((1 : Nat) <= y /\ y + 1 <= p.row.length) /\ p.row.length - y < p.row.length + 1) /\ (True /\ qs p.row = qs p.row /\ True /\ True /\ True /\ (2 : Int) = (y : Int) + 1 /\ True) /\ [x.num, (x.den : Int)] = [x.num, (x.den : Int)] /\ qs p.left = qs p.left /\ qs p.right = qs p.right /\ [((rat ((rat (((qs p.row).getD (0 : Nat) (0, 0)).fst, ((qs p.row).getD (0 : Nat) (0, 0)).snd) * rat ((x.den : Int) - x.num, (x.den : Int))).num, (↑(rat (((qs p.row).getD (0 : Nat) (0, 0)).fst, ((qs p.row).getD (0 : Nat) (0, 0)).snd) * rat ((x.den : Int) - x.num, (x.den : Int))).den : Int)) + rat ((rat (((qs p.row).getD (1 : Nat) (0, 0)).fst, ((qs p.row).getD (1 : Nat) (0, 0)).snd) * rat (x.num, (x.den : Int))).num, (↑(rat (((qs p.row).getD (1 : Nat) (0, 0)).fst, ((qs p.row).getD (1 : Nat) (0, 0)).snd) * rat (x.num, (x.den : Int))).den : Int))).num, (↑(rat ((rat (((qs p.row).getD (0 : Nat) (0, 0)).fst, ((qs p.row).getD (0 : Nat) (0, 0)).snd) * rat ((x.den : Int) - x.num, (x.den : Int))).num, (↑(rat (((qs p.row).getD (0 : Nat) (0, 0)).fst, ((qs p.row).getD (0 : Nat) (0, 0)).snd) * rat ((x.den : Int) - x.num, (x.den : Int))).den : Int)) + rat ((rat (((qs p.row).getD (1 : Nat) (0, 0)).fst, ((qs p.row).getD (1 : Nat) (0, 0)).snd) * rat (x.num, (x.den : Int))).num, (↑(rat (((qs p.row).getD (1 : Nat) (0, 0)).fst, ((qs p.row).getD (1 : Nat) (0, 0)).snd) * rat (x.num, (x.den : Int))).den : Int))).den : Int))] = qs (List.take y (dcs x p.row)) /\ True)) /\ (¬(1 : Int) < (↑(qs p.row).length : Int) -> (∃ (y : Unit), p.row.length = 1 /\ (True /\ True /\ True /\ True /\ True) /\ [x.num, (x.den : Int)] = [x.num, (x.den : Int)] /\ qs p.left = qs p.left /\ qs p.right = qs p.right /\ True) ∨ ∃ (y : Unit), (2 : Nat) <= p.row.length /\ (True /\ True /\ True /\ False /\ True) /\ [x.num, (x.den : Int)] = [x.num, (x.den : Int)] /\ qs p.left = qs p.left /\ qs p.right = qs p.right /\ False)) (by kernel_rfl) ?_
     simp only [zz]
     refine ⟨fun h2 => ?_, fun h2 => by omega⟩
     have ok := Rw.avg h r (k := 0) (by omega)
     rw [qs_getD (show 0 < p.row.length by omega), qs_getD (show 1 < p.row.length by omega)]
     simp only [qp_fst, qp_snd, rat_num_den, rat_sub]
     refine ⟨by simp only [inR]; omega, by unfold idxPre; omega, i12, i02, inR_of_small sx, i12, ⟨good_nd _, good_sub _, ok.1⟩, by unfold idxPre; omega, ⟨good_nd _, good_nd _, ok.2.1⟩, ⟨good_nd _, good_nd _, ok.2.2⟩, by unfold sumPre; simp, by simp only [inR]; omega, 1, by omega, by omega, ?_⟩
     rw [dcs_take x (by omega)]; try rfl
   · refine of_eq (q := True /\ True /\ True /\ True /\ ((k : Int) + 1 < (↑(qs p.row).length : Int) -> True /\ True /\ True /\ inR .i64 ((k : Int) + 1 - 1) /\ idxPre ((k : Int) + 1 - 1) (qs p.row).length /\ True /\ idxPre (1 : Int) (2 : Nat) /\ True /\ idxPre (0 : Int) (2 : Nat) /\ True /\ inR .i64 ((x.den : Int) - x.num) /\ idxPre (1 : Int) (2 : Nat) /\ True /\ True /\ (good (((qs p.row).getD ((k : Int) + 1 - 1).toNat ((0 : Int), (0 : Int))).fst, ((qs p.row).getD ((k : Int) + 1 - 1).toNat ((0 : Int), (0 : Int))).snd) /\ good ((x.den : Int) - x.num, (x.den : Int)) /\ mulOk (rat (((qs p.row).getD ((k : Int) + 1 - 1).toNat ((0 : Int), (0 : Int))).fst, ((qs p.row).getD ((k : Int) + 1 - 1).toNat ((0 : Int), (0 : Int))).snd)) (rat ((x.den : Int) - x.num, (x.den : Int)))) /\ True /\ True /\ idxPre ((k : Int) + 1) (qs p.row).length /\ True /\ True /\ (good (((qs p.row).getD (k + 1) (0, 0)).fst, ((qs p.row).getD (k + 1) (0, 0)).snd) /\ good (x.num, (x.den : Int)) /\ mulOk (rat (((qs p.row).getD (k + 1) (0, 0)).fst, ((qs p.row).getD (k + 1) (0, 0)).snd)) (rat (x.num, (x.den : Int)))) /\ (good ((rat (((qs p.row).getD ((k : Int) + 1 - 1).toNat ((0 : Int), (0 : Int))).fst, ((qs p.row).getD ((k : Int) + 1 - 1).toNat ((0 : Int), (0 : Int))).snd) * rat ((x.den : Int) - x.num, (x.den : Int))).num, (↑(rat (((qs p.row).getD ((k : Int) + 1 - 1).toNat ((0 : Int), (0 : Int))).fst, ((qs p.row).getD ((k : Int) + 1 - 1).toNat ((0 : Int), (0 : Int))).snd) * rat ((x.den : Int) - x.num, (x.den : Int))).den : Int)) /\ good ((rat (((qs p.row).getD (k + 1) (0, 0)).fst, ((qs p.row).getD (k + 1) (0, 0)).snd) * rat (x.num, (x.den : Int))).num, (↑(rat (((qs p.row).getD (k + 1) (0, 0)).fst, ((qs p.row).getD (k + 1) (0, 0)).snd) * rat (x.num, (x.den : Int))).den : Int)) /\ addOk (rat ((rat (((qs p.row).getD ((k : Int) + 1 - 1).toNat ((0 : Int), (0 : Int))).fst, ((qs p.row).getD ((k : Int) + 1 - 1).toNat ((0 : Int), (0 : Int))).snd) * rat ((x.den : Int) - x.num, (x.den : Int))).num, (↑(rat (((qs p.row).getD ((k : Int) + 1 - 1).toNat ((0 : Int), (0 : Int))).fst, ((qs p.row).getD ((k : Int) + 1 - 1).toNat ((0 : Int), (0 : Int))).snd) * rat ((x.den : Int) - x.num, (x.den : Int))).den : Int))) (rat ((rat (((qs p.row).getD (k + 1) (0, 0)).fst, ((qs p.row).getD (k + 1) (0, 0)).snd) * rat (x.num, (x.den : Int))).num, (↑(rat (((qs p.row).getD (k + 1) (0, 0)).fst, ((qs p.row).getD (k + 1) (0, 0)).snd) * rat (x.num, (x.den : Int))).den : Int)))) /\ True /\ sumPre (qs (List.take k (dcs x p.row))).length [((rat ((rat (((qs p.row).getD ((k : Int) + 1 - 1).toNat ((0 : Int), (0 : Int))).fst, ((qs p.row).getD ((k : Int) + 1 - 1).toNat ((0 : Int), (0 : Int))).snd) * rat ((x.den : Int) - x.num, (x.den : Int))).num, (↑(rat (((qs p.row).getD ((k : Int) + 1 - 1).toNat ((0 : Int), (0 : Int))).fst, ((qs p.row).getD ((k : Int) + 1 - 1).toNat ((0 : Int), (0 : Int))).snd) * rat ((x.den : Int) - x.num, (x.den : Int))).den : Int)) + rat ((rat (((qs p.row).getD (k + 1) (0, 0)).fst, ((qs p.row).getD (k + 1) (0, 0)).snd) * rat (x.num, (x.den : Int))).num, (↑(rat (((qs p.row).getD (k + 1) (0, 0)).fst, ((qs p.row).getD (k + 1) (0, 0)).snd) * rat (x.num, (x.den : Int))).den : Int))).num, (↑(rat ((rat (((qs p.row).getD ((k : Int) + 1 - 1).toNat ((0 : Int), (0 : Int))).fst, ((qs p.row).getD ((k : Int) + 1 - 1).toNat ((0 : Int), (0 : Int))).snd) * rat ((x.den : Int) - x.num, (x.den : Int))).num, (↑(rat (((qs p.row).getD ((k : Int) + 1 - 1).toNat ((0 : Int), (0 : Int))).fst, ((qs p.row).getD ((k : Int) + 1 - 1).toNat ((0 : Int), (0 : Int))).snd) * rat ((x.den : Int) - x.num, (x.den : Int))).den : Int)) + rat ((rat (((qs p.row).getD (k + 1) (0, 0)).fst, ((qs p.row).getD (k + 1) (0, 0)).snd) * rat (x.num, (x.den : Int))).num, (↑(rat (((qs p.row).getD (k + 1) (0, 0)).fst, ((qs p.row).getD (k + 1) (0, 0)).snd) * rat (x.num, (x.den : Int))).den : Int))).den : Int))].length (nat_lit 16) /\ True /\ True /\ inR .i64 ((k : Int) + 1 + 1) /\ True /\ ((∃ (y : Unit), (True /\ p.row.length + 1 < p.row.length - k) /\ (True /\ qs p.row = qs p.row /\ True /\ True /\ False /\ (k : Int) + 1 + 1 = 1 /\ True) /\ [x.num, (x.den : Int)] = [x.num, (x.den : Int)] /\ qs p.left = qs p.left /\ qs p.right = qs p.right /\ True) ∨ ∃ (y : Nat), (((1 : Nat) <= y /\ y + 1 <= p.row.length) /\ p.row.length - y < p.row.length - k) /\ (True /\ qs p.row = qs p.row /\ True /\ True /\ True /\ (k : Int) + 1 + 1 = (y : Int) + 1 /\ True) /\ [x.num, (x.den : Int)] = [x.num, (x.den : Int)] /\ qs p.left = qs p.left /\ qs p.right = qs p.right /\ qs (List.take k (dcs x p.row)) ++ [((rat ((rat (((qs p.row).getD ((k : Int) + 1 - 1).toNat ((0 : Int), (0 : Int))).fst, ((qs p.row).getD ((k : Int) + 1 - 1).toNat ((0 : Int), (0 : Int))).snd) * rat ((x.den : Int) - x.num, (x.den : Int))).num, (↑(rat (((qs p.row).getD ((k : Int) + 1 - 1).toNat ((0 : Int), (0 : Int))).fst, ((qs p.row).getD ((k : Int) + 1 - 1).toNat ((0 : Int), (0 : Int))).snd) * rat ((x.den : Int) - x.num, (x.den : Int))).den : Int)) + rat ((rat (((qs p.row).getD (k + 1) (0, 0)).fst, ((qs p.row).getD (k + 1) (0, 0)).snd) * rat (x.num, (x.den : Int))).num, (↑(rat (((qs p.row).getD (k + 1) (0, 0)).fst, ((qs p.row).getD (k + 1) (0, 0)).snd) * rat (x.num, (x.den : Int))).den : Int))).num, (↑(rat ((rat (((qs p.row).getD ((k : Int) + 1 - 1).toNat ((0 : Int), (0 : Int))).fst, ((qs p.row).getD ((k : Int) + 1 - 1).toNat ((0 : Int), (0 : Int))).snd) * rat ((x.den : Int) - x.num, (x.den : Int))).num, (↑(rat (((qs p.row).getD ((k : Int) + 1 - 1).toNat ((0 : Int), (0 : Int))).fst, ((qs p.row).getD ((k : Int) + 1 - 1).toNat ((0 : Int), (0 : Int))).snd) * rat ((x.den : Int) - x.num, (x.den : Int))).den : Int)) + rat ((rat (((qs p.row).getD (k + 1) (0, 0)).fst, ((qs p.row).getD (k + 1) (0, 0)).snd) * rat (x.num, (x.den : Int))).num, (↑(rat (((qs p.row).getD (k + 1) (0, 0)).fst, ((qs p.row).getD (k + 1) (0, 0)).snd) * rat (x.num, (x.den : Int))).den : Int))).den : Int))] = qs (List.take y (dcs x p.row)) /\ True)) /\ (¬(k : Int) + 1 < (↑(qs p.row).length : Int) -> (∃ (y : Unit), p.row.length = 1 /\ (True /\ True /\ True /\ False /\ True) /\ [x.num, (x.den : Int)] = [x.num, (x.den : Int)] /\ qs p.left = qs p.left /\ qs p.right = qs p.right /\ True) ∨ ∃ (y : Unit), (2 : Nat) <= p.row.length /\ (True /\ True /\ True /\ True /\ True) /\ [x.num, (x.den : Int)] = [x.num, (x.den : Int)] /\ qs p.left = qs p.left /\ qs p.right = qs p.right /\ qs (List.take k (dcs x p.row)) = qs (dcs x p.row) /\ True)) (by kernel_rfl) ?_
     simp only [zz]
     have hk' : 1 <= k /\ k + 1 <= p.row.length := hk
     have e1 : ((k : Int) + 1 - 1).toNat = k := by omega
     have e2 : ((k : Int) + 1).toNat = k + 1 := by omega
     refine ⟨fun h2 => ?_, fun h2 => ⟨by omega, ?_⟩⟩
     · have ok := Rw.avg h r (k := k) (by omega)
       simp only [e1, e2]
       rw [qs_getD (show k < p.row.length by omega), qs_getD (show k + 1 < p.row.length by omega)]
       simp only [qp_fst, qp_snd, rat_num_den, rat_sub]
       have hl := dcs_length x p.row
       refine ⟨by simp only [inR]; omega, by unfold idxPre; omega, i12, i02, inR_of_small sx, i12, ⟨good_nd _, good_sub _, ok.1⟩, by unfold idxPre; omega, ⟨good_nd _, good_nd _, ok.2.1⟩, ⟨good_nd _, good_nd _, ok.2.2⟩, ?_, by simp only [inR]; omega, k + 1, by omega, by simp, ?_⟩
       · unfold sumPre; simp only [qs_length, List.length_take, List.length_cons, List.length_nil]; omega
       · rw [dcs_take x (by omega)]; simp [qs]; try rfl
     · rw [List.take_of_length_le (by rw [dcs_length]; omega)]
 | false =>
   refine loop_fams X40_ok [3, 6, 7, 8, 9, 10] (fj40 x p false) (ej40 x p) 80 ⟨fun _ _ => ?_, fun (k : Nat) hk => ?_, trivial⟩
   · refine of_eq (q := True /\ True /\ True /\ True /\ ((1 : Int) < (↑(qs p.row).length : Int) -> True /\ True /\ True /\ inR .i64 (0 : Int) /\ idxPre (0 : Int) (qs p.row).length /\ True /\ idxPre (1 : Int) (2 : Nat) /\ True /\ idxPre (0 : Int) (2 : Nat) /\ True /\ inR .i64 ((x.den : Int) - x.num) /\ idxPre (1 : Int) (2 : Nat) /\ True /\ True /\ (good (((qs p.row).getD (0 : Nat) (0, 0)).fst, ((qs p.row).getD (0 : Nat) (0, 0)).snd) /\ good ((x.den : Int) - x.num, (x.den : Int)) /\ mulOk (rat (((qs p.row).getD (0 : Nat) (0, 0)).fst, ((qs p.row).getD (0 : Nat) (0, 0)).snd)) (rat ((x.den : Int) - x.num, (x.den : Int)))) /\ True /\ True /\ idxPre (1 : Int) (qs p.row).length /\ True /\ True /\ (good (((qs p.row).getD (1 : Nat) (0, 0)).fst, ((qs p.row).getD (1 : Nat) (0, 0)).snd) /\ good (x.num, (x.den : Int)) /\ mulOk (rat (((qs p.row).getD (1 : Nat) (0, 0)).fst, ((qs p.row).getD (1 : Nat) (0, 0)).snd)) (rat (x.num, (x.den : Int)))) /\ (good ((rat (((qs p.row).getD (0 : Nat) (0, 0)).fst, ((qs p.row).getD (0 : Nat) (0, 0)).snd) * rat ((x.den : Int) - x.num, (x.den : Int))).num, (↑(rat (((qs p.row).getD (0 : Nat) (0, 0)).fst, ((qs p.row).getD (0 : Nat) (0, 0)).snd) * rat ((x.den : Int) - x.num, (x.den : Int))).den : Int)) /\ good ((rat (((qs p.row).getD (1 : Nat) (0, 0)).fst, ((qs p.row).getD (1 : Nat) (0, 0)).snd) * rat (x.num, (x.den : Int))).num, (↑(rat (((qs p.row).getD (1 : Nat) (0, 0)).fst, ((qs p.row).getD (1 : Nat) (0, 0)).snd) * rat (x.num, (x.den : Int))).den : Int)) /\ addOk (rat ((rat (((qs p.row).getD (0 : Nat) (0, 0)).fst, ((qs p.row).getD (0 : Nat) (0, 0)).snd) * rat ((x.den : Int) - x.num, (x.den : Int))).num, (↑(rat (((qs p.row).getD (0 : Nat) (0, 0)).fst, ((qs p.row).getD (0 : Nat) (0, 0)).snd) * rat ((x.den : Int) - x.num, (x.den : Int))).den : Int))) (rat ((rat (((qs p.row).getD (1 : Nat) (0, 0)).fst, ((qs p.row).getD (1 : Nat) (0, 0)).snd) * rat (x.num, (x.den : Int))).num, (↑(rat (((qs p.row).getD (1 : Nat) (0, 0)).fst, ((qs p.row).getD (1 : Nat) (0, 0)).snd) * rat (x.num, (x.den : Int))).den : Int)))) /\ True /\ sumPre (0 : Nat) [((rat ((rat (((qs p.row).getD (0 : Nat) (0, 0)).fst, ((qs p.row).getD (0 : Nat) (0, 0)).snd) * rat ((x.den : Int) - x.num, (x.den : Int))).num, (↑(rat (((qs p.row).getD (0 : Nat) (0, 0)).fst, ((qs p.row).getD (0 : Nat) (0, 0)).snd) * rat ((x.den : Int) - x.num, (x.den : Int))).den : Int)) + rat ((rat (((qs p.row).getD (1 : Nat) (0, 0)).fst, ((qs p.row).getD (1 : Nat) (0, 0)).snd) * rat (x.num, (x.den : Int))).num, (↑(rat (((qs p.row).getD (1 : Nat) (0, 0)).fst, ((qs p.row).getD (1 : Nat) (0, 0)).snd) * rat (x.num, (x.den : Int))).den : Int))).num, (↑(rat ((rat (((qs p.row).getD (0 : Nat) (0, 0)).fst, ((qs p.row).getD (0 : Nat) (0, 0)).snd) * rat ((x.den : Int) - x.num, (x.den : Int))).num, (↑(rat (((qs p.row).getD (0 : Nat) (0, 0)).fst, ((qs p.row).getD (0 : Nat) (0, 0)).snd) * rat ((x.den : Int) - x.num, (x.den : Int))).den : Int)) + rat ((rat (((qs p.row).getD (1 : Nat) (0, 0)).fst, ((qs p.row).getD (1 : Nat) (0, 0)).snd) * rat (x.num, (x.den : Int))).num, (↑(rat (((qs p.row).getD (1 : Nat) (0, 0)).fst, ((qs p.row).getD (1 : Nat) (0, 0)).snd) * rat (x.num, (x.den : Int))).den : Int))).den : Int))].length (nat_lit 16) /\ True /\ True /\ inR .i64 (2 : Int) /\ True /\ ((∃ (y : Unit), (True /\ p.row.length + 1 < p.row.length + 1) /\ (True /\ True /\ True /\ True /\ False /\ (2 : Int) = 1 /\ True) /\ [x.num, (x.den : Int)] = [x.num, (x.den : Int)] /\ qs p.row = qs p.row /\ qs p.left = qs p.left /\ qs p.right = qs p.right /\ True) ∨ ∃ (y : Nat), (((1 : Nat) <= y /\ y + 1 <= p.row.length) /\ p.row.length - y < p.row.length + 1) /\ (True /\ True /\ True /\ True /\ True /\ (2 : Int) = (y : Int) + 1 /\ True) /\ [x.num, (x.den : Int)] = [x.num, (x.den : Int)] /\ qs p.row = qs p.row /\ qs p.left = qs p.left /\ qs p.right = qs p.right /\ [((rat ((rat (((qs p.row).getD (0 : Nat) (0, 0)).fst, ((qs p.row).getD (0 : Nat) (0, 0)).snd) * rat ((x.den : Int) - x.num, (x.den : Int))).num, (↑(rat (((qs p.row).getD (0 : Nat) (0, 0)).fst, ((qs p.row).getD (0 : Nat) (0, 0)).snd) * rat ((x.den : Int) - x.num, (x.den : Int))).den : Int)) + rat ((rat (((qs p.row).getD (1 : Nat) (0, 0)).fst, ((qs p.row).getD (1 : Nat) (0, 0)).snd) * rat (x.num, (x.den : Int))).num, (↑(rat (((qs p.row).getD (1 : Nat) (0, 0)).fst, ((qs p.row).getD (1 : Nat) (0, 0)).snd) * rat (x.num, (x.den : Int))).den : Int))).num, (↑(rat ((rat (((qs p.row).getD (0 : Nat) (0, 0)).fst, ((qs p.row).getD (0 : Nat) (0, 0)).snd) * rat ((x.den : Int) - x.num, (x.den : Int))).num, (↑(rat (((qs p.row).getD (0 : Nat) (0, 0)).fst, ((qs p.row).getD (0 : Nat) (0, 0)).snd) * rat ((x.den : Int) - x.num, (x.den : Int))).den : Int)) + rat ((rat (((qs p.row).getD (1 : Nat) (0, 0)).fst, ((qs p.row).getD (1 : Nat) (0, 0)).snd) * rat (x.num, (x.den : Int))).num, (↑(rat (((qs p.row).getD (1 : Nat) (0, 0)).fst, ((qs p.row).getD (1 : Nat) (0, 0)).snd) * rat (x.num, (x.den : Int))).den : Int))).den : Int))] = qs (List.take y (dcs x p.row)) /\ True)) /\ (¬(1 : Int) < (↑(qs p.row).length : Int) -> (∃ (y : Unit), p.row.length = 1 /\ (True /\ True /\ True /\ True /\ True) /\ [x.num, (x.den : Int)] = [x.num, (x.den : Int)] /\ qs p.left = qs p.left /\ qs p.right = qs p.right /\ True) ∨ ∃ (y : Unit), (2 : Nat) <= p.row.length /\ (True /\ True /\ True /\ False /\ True) /\ [x.num, (x.den : Int)] = [x.num, (x.den : Int)] /\ qs p.left = qs p.left /\ qs p.right = qs p.right /\ False)) (by kernel_rfl) ?_
     simp only [zz]
     refine ⟨fun h2 => ?_, fun h2 => by omega⟩
     have ok := Rw.avg h r (k := 0) (by omega)
     rw [qs_getD (show 0 < p.row.length by omega), qs_getD (show 1 < p.row.length by omega)]
     simp only [qp_fst, qp_snd, rat_num_den, rat_sub]
     refine ⟨by simp only [inR]; omega, by unfold idxPre; omega, i12, i02, inR_of_small sx, i12, ⟨good_nd _, good_sub _, ok.1⟩, by unfold idxPre; omega, ⟨good_nd _, good_nd _, ok.2.1⟩, ⟨good_nd _, good_nd _, ok.2.2⟩, by unfold sumPre; simp, by simp only [inR]; omega, 1, by omega, by omega, ?_⟩
     rw [dcs_take x (by omega)]; try rfl
   · refine of_eq (q := True /\ True /\ True /\ True /\ ((k : Int) + 1 < (↑(qs p.row).length : Int) -> True /\ True /\ True /\ inR .i64 ((k : Int) + 1 - 1) /\ idxPre ((k : Int) + 1 - 1) (qs p.row).length /\ True /\ idxPre (1 : Int) (2 : Nat) /\ True /\ idxPre (0 : Int) (2 : Nat) /\ True /\ inR .i64 ((x.den : Int) - x.num) /\ idxPre (1 : Int) (2 : Nat) /\ True /\ True /\ (good (((qs p.row).getD ((k : Int) + 1 - 1).toNat ((0 : Int), (0 : Int))).fst, ((qs p.row).getD ((k : Int) + 1 - 1).toNat ((0 : Int), (0 : Int))).snd) /\ good ((x.den : Int) - x.num, (x.den : Int)) /\ mulOk (rat (((qs p.row).getD ((k : Int) + 1 - 1).toNat ((0 : Int), (0 : Int))).fst, ((qs p.row).getD ((k : Int) + 1 - 1).toNat ((0 : Int), (0 : Int))).snd)) (rat ((x.den : Int) - x.num, (x.den : Int)))) /\ True /\ True /\ idxPre ((k : Int) + 1) (qs p.row).length /\ True /\ True /\ (good (((qs p.row).getD (k + 1) (0, 0)).fst, ((qs p.row).getD (k + 1) (0, 0)).snd) /\ good (x.num, (x.den : Int)) /\ mulOk (rat (((qs p.row).getD (k + 1) (0, 0)).fst, ((qs p.row).getD (k + 1) (0, 0)).snd)) (rat (x.num, (x.den : Int)))) /\ (good ((rat (((qs p.row).getD ((k : Int) + 1 - 1).toNat ((0 : Int), (0 : Int))).fst, ((qs p.row).getD ((k : Int) + 1 - 1).toNat ((0 : Int), (0 : Int))).snd) * rat ((x.den : Int) - x.num, (x.den : Int))).num, (↑(rat (((qs p.row).getD ((k : Int) + 1 - 1).toNat ((0 : Int), (0 : Int))).fst, ((qs p.row).getD ((k : Int) + 1 - 1).toNat ((0 : Int), (0 : Int))).snd) * rat ((x.den : Int) - x.num, (x.den : Int))).den : Int)) /\ good ((rat (((qs p.row).getD (k + 1) (0, 0)).fst, ((qs p.row).getD (k + 1) (0, 0)).snd) * rat (x.num, (x.den : Int))).num, (↑(rat (((qs p.row).getD (k + 1) (0, 0)).fst, ((qs p.row).getD (k + 1) (0, 0)).snd) * rat (x.num, (x.den : Int))).den : Int)) /\ addOk (rat ((rat (((qs p.row).getD ((k : Int) + 1 - 1).toNat ((0 : Int), (0 : Int))).fst, ((qs p.row).getD ((k : Int) + 1 - 1).toNat ((0 : Int), (0 : Int))).snd) * rat ((x.den : Int) - x.num, (x.den : Int))).num, (↑(rat (((qs p.row).getD ((k : Int) + 1 - 1).toNat ((0 : Int), (0 : Int))).fst, ((qs p.row).getD ((k : Int) + 1 - 1).toNat ((0 : Int), (0 : Int))).snd) * rat ((x.den : Int) - x.num, (x.den : Int))).den : Int))) (rat ((rat (((qs p.row).getD (k + 1) (0, 0)).fst, ((qs p.row).getD (k + 1) (0, 0)).snd) * rat (x.num, (x.den : Int))).num, (↑(rat (((qs p.row).getD (k + 1) (0, 0)).fst, ((qs p.row).getD (k + 1) (0, 0)).snd) * rat (x.num, (x.den : Int))).den : Int)))) /\ True /\ sumPre (qs (List.take k (dcs x p.row))).length [((rat ((rat (((qs p.row).getD ((k : Int) + 1 - 1).toNat ((0 : Int), (0 : Int))).fst, ((qs p.row).getD ((k : Int) + 1 - 1).toNat ((0 : Int), (0 : Int))).snd) * rat ((x.den : Int) - x.num, (x.den : Int))).num, (↑(rat (((qs p.row).getD ((k : Int) + 1 - 1).toNat ((0 : Int), (0 : Int))).fst, ((qs p.row).getD ((k : Int) + 1 - 1).toNat ((0 : Int), (0 : Int))).snd) * rat ((x.den : Int) - x.num, (x.den : Int))).den : Int)) + rat ((rat (((qs p.row).getD (k + 1) (0, 0)).fst, ((qs p.row).getD (k + 1) (0, 0)).snd) * rat (x.num, (x.den : Int))).num, (↑(rat (((qs p.row).getD (k + 1) (0, 0)).fst, ((qs p.row).getD (k + 1) (0, 0)).snd) * rat (x.num, (x.den : Int))).den : Int))).num, (↑(rat ((rat (((qs p.row).getD ((k : Int) + 1 - 1).toNat ((0 : Int), (0 : Int))).fst, ((qs p.row).getD ((k : Int) + 1 - 1).toNat ((0 : Int), (0 : Int))).snd) * rat ((x.den : Int) - x.num, (x.den : Int))).num, (↑(rat (((qs p.row).getD ((k : Int) + 1 - 1).toNat ((0 : Int), (0 : Int))).fst, ((qs p.row).getD ((k : Int) + 1 - 1).toNat ((0 : Int), (0 : Int))).snd) * rat ((x.den : Int) - x.num, (x.den : Int))).den : Int)) + rat ((rat (((qs p.row).getD (k + 1) (0, 0)).fst, ((qs p.row).getD (k + 1) (0, 0)).snd) * rat (x.num, (x.den : Int))).num, (↑(rat (((qs p.row).getD (k + 1) (0, 0)).fst, ((qs p.row).getD (k + 1) (0, 0)).snd) * rat (x.num, (x.den : Int))).den : Int))).den : Int))].length (nat_lit 16) /\ True /\ True /\ inR .i64 ((k : Int) + 1 + 1) /\ True /\ ((∃ (y : Unit), (True /\ p.row.length + 1 < p.row.length - k) /\ (True /\ True /\ True /\ True /\ False /\ (k : Int) + 1 + 1 = 1 /\ True) /\ [x.num, (x.den : Int)] = [x.num, (x.den : Int)] /\ qs p.row = qs p.row /\ qs p.left = qs p.left /\ qs p.right = qs p.right /\ True) ∨ ∃ (y : Nat), (((1 : Nat) <= y /\ y + 1 <= p.row.length) /\ p.row.length - y < p.row.length - k) /\ (True /\ True /\ True /\ True /\ True /\ (k : Int) + 1 + 1 = (y : Int) + 1 /\ True) /\ [x.num, (x.den : Int)] = [x.num, (x.den : Int)] /\ qs p.row = qs p.row /\ qs p.left = qs p.left /\ qs p.right = qs p.right /\ qs (List.take k (dcs x p.row)) ++ [((rat ((rat (((qs p.row).getD ((k : Int) + 1 - 1).toNat ((0 : Int), (0 : Int))).fst, ((qs p.row).getD ((k : Int) + 1 - 1).toNat ((0 : Int), (0 : Int))).snd) * rat ((x.den : Int) - x.num, (x.den : Int))).num, (↑(rat (((qs p.row).getD ((k : Int) + 1 - 1).toNat ((0 : Int), (0 : Int))).fst, ((qs p.row).getD ((k : Int) + 1 - 1).toNat ((0 : Int), (0 : Int))).snd) * rat ((x.den : Int) - x.num, (x.den : Int))).den : Int)) + rat ((rat (((qs p.row).getD (k + 1) (0, 0)).fst, ((qs p.row).getD (k + 1) (0, 0)).snd) * rat (x.num, (x.den : Int))).num, (↑(rat (((qs p.row).getD (k + 1) (0, 0)).fst, ((qs p.row).getD (k + 1) (0, 0)).snd) * rat (x.num, (x.den : Int))).den : Int))).num, (↑(rat ((rat (((qs p.row).getD ((k : Int) + 1 - 1).toNat ((0 : Int), (0 : Int))).fst, ((qs p.row).getD ((k : Int) + 1 - 1).toNat ((0 : Int), (0 : Int))).snd) * rat ((x.den : Int) - x.num, (x.den : Int))).num, (↑(rat (((qs p.row).getD ((k : Int) + 1 - 1).toNat ((0 : Int), (0 : Int))).fst, ((qs p.row).getD ((k : Int) + 1 - 1).toNat ((0 : Int), (0 : Int))).snd) * rat ((x.den : Int) - x.num, (x.den : Int))).den : Int)) + rat ((rat (((qs p.row).getD (k + 1) (0, 0)).fst, ((qs p.row).getD (k + 1) (0, 0)).snd) * rat (x.num, (x.den : Int))).num, (↑(rat (((qs p.row).getD (k + 1) (0, 0)).fst, ((qs p.row).getD (k + 1) (0, 0)).snd) * rat (x.num, (x.den : Int))).den : Int))).den : Int))] = qs (List.take y (dcs x p.row)) /\ True)) /\ (¬(k : Int) + 1 < (↑(qs p.row).length : Int) -> (∃ (y : Unit), p.row.length = 1 /\ (True /\ True /\ True /\ False /\ True) /\ [x.num, (x.den : Int)] = [x.num, (x.den : Int)] /\ qs p.left = qs p.left /\ qs p.right = qs p.right /\ True) ∨ ∃ (y : Unit), (2 : Nat) <= p.row.length /\ (True /\ True /\ True /\ True /\ True) /\ [x.num, (x.den : Int)] = [x.num, (x.den : Int)] /\ qs p.left = qs p.left /\ qs p.right = qs p.right /\ qs (List.take k (dcs x p.row)) = qs (dcs x p.row) /\ True)) (by kernel_rfl) ?_
     simp only [zz]
     have hk' : 1 <= k /\ k + 1 <= p.row.length := hk
     have e1 : ((k : Int) + 1 - 1).toNat = k := by omega
     have e2 : ((k : Int) + 1).toNat = k + 1 := by omega
     refine ⟨fun h2 => ?_, fun h2 => ⟨by omega, ?_⟩⟩
     · have ok := Rw.avg h r (k := k) (by omega)
       simp only [e1, e2]
       rw [qs_getD (show k < p.row.length by omega), qs_getD (show k + 1 < p.row.length by omega)]
       simp only [qp_fst, qp_snd, rat_num_den, rat_sub]
       have hl := dcs_length x p.row
       refine ⟨by simp only [inR]; omega, by unfold idxPre; omega, i12, i02, inR_of_small sx, i12, ⟨good_nd _, good_sub _, ok.1⟩, by unfold idxPre; omega, ⟨good_nd _, good_nd _, ok.2.1⟩, ⟨good_nd _, good_nd _, ok.2.2⟩, ?_, by simp only [inR]; omega, k + 1, by omega, by simp, ?_⟩
       · unfold sumPre; simp only [qs_length, List.length_take, List.length_cons, List.length_nil]; omega
       · rw [dcs_take x (by omega)]; simp [qs]; try rfl
     · rw [List.take_of_length_le (by rw [dcs_length]; omega)]
noncomputable def fm40 (x : Rat) (D M b : Int) (l : List Rat) : List Fam := [
 ⟨P3, fun p => Rw D M b x l p.row [] [] /\ 1 <= p.row.length /\ p.left = [] /\ p.right = [], f40a x, fun p => p.row.length + 1, fun p => Hj40 x (nx p) true⟩,
 ⟨P3, fun p => Rw D M b x l p.row p.left p.right /\ 1 <= p.row.length, f40b x, fun p => p.row.length, fun p => Hj40 x (nx p) false⟩,
 ⟨P3, fun p => Rw D M b x l [] p.left p.right, f40c x, fun _ => 0, fun _ _ => none⟩]
def ex40 (x : Rat) (l : List Rat) : List (List Nat × Ex) := [([7, 8], ⟨0, Unit, fun _ => True, fun _ => ⟨.dead :: .dead :: .dead :: .dead :: .dead :: .dead :: .dead :: .own 0 0 :: .own 1 0 :: dd 56, [sq48 (dvL x l), sq48 (dvR x l)]⟩⟩)]
noncomputable def H40 (x : Rat) (D M b : Int) (l : List Rat) : Nat -> Option Hint := fun _ => some ⟨chks 0 [3, 6, 7, 8] (fm40 x D M b l), (ex40 x l).map (·.2)⟩
theorem Rw.lens {D M b : Int} {x : Rat} {l row left right : List Rat} (r : Rw D M b x l row left right) : left.length + row.length = l.length /\ right.length + row.length = l.length := by
 have h1 := congrArg List.length r.L
 have h2 := congrArg List.length r.R
 rw [List.length_append, divL_length, dvL_length] at h1
 rw [divR_length, dvR_length] at h2
 omega
theorem loop40 (x : Rat) (D M b : Int) (l : List Rat) (h : Dv D M b x l) (R : Exit -> St -> Prop) : LoopOK X40 L40_0 ⟨chks 0 [3, 6, 7, 8] (fm40 x D M b l), (ex40 x l).map (·.2)⟩ R := by
 refine loop_fams X40_ok [3, 6, 7, 8] (fm40 x D M b l) (ex40 x l) 80 ⟨fun (p : P3) hp => ?_, fun (p : P3) hp => ?_, fun (p : P3) hp => ?_, trivial⟩
 · have hL := loop40_2 x (nx p) true D M b l _ _ h hp.1 hp.2.1
   refine of_eq (q := True /\ True /\ True /\ ((0 : Int) < (↑(qs p.row).length : Int) -> True /\ True /\ idxPre (0 : Int) (qs p.row).length /\ True /\ True /\ sumPre (0 : Nat) [(((qs p.row).getD (0 : Nat) (0, 0)).fst, ((qs p.row).getD (0 : Nat) (0, 0)).snd)].length (nat_lit 16) /\ True /\ True /\ True /\ True /\ inR .i64 ((↑(qs p.row).length : Int) - 1) /\ idxPre ((↑(qs p.row).length : Int) - 1) (qs p.row).length /\ True /\ True /\ True /\ sumPre [(((qs p.row).getD ((↑(qs p.row).length : Int) - 1).toNat ((0 : Int), (0 : Int))).fst, ((qs p.row).getD ((↑(qs p.row).length : Int) - 1).toNat ((0 : Int), (0 : Int))).snd)].length (0 : Nat) (nat_lit 16) /\ True /\ True /\ True /\ LoopOK X40 L40_2 { J := chks (0 : Nat) [(3 : Nat), (6 : Nat), (7 : Nat), (8 : Nat), (9 : Nat), (10 : Nat)] (fj40 x (nx p) true), exits := List.map (fun (x : List Nat × Ex) => x.snd) (ej40 x (nx p)) } (bodyR X40.m0 (ex40 x l) R) /\ ((∃ (y : Unit), True /\ (True /\ qs p.row = qs (nx p).row /\ True /\ True /\ True /\ (1 : Int) = 1 /\ True) /\ [x.num, (x.den : Int)] = [x.num, (x.den : Int)] /\ [(((qs p.row).getD (0 : Nat) (0, 0)).fst, ((qs p.row).getD (0 : Nat) (0, 0)).snd)] = qs (nx p).left /\ [(((qs p.row).getD ((↑(qs p.row).length : Int) - 1).toNat ((0 : Int), (0 : Int))).fst, ((qs p.row).getD ((↑(qs p.row).length : Int) - 1).toNat ((0 : Int), (0 : Int))).snd)] ++ [] = qs (nx p).right /\ True) ∨ ∃ (y : Nat), ((1 : Nat) <= y /\ y + 1 <= (nx p).row.length) /\ (True /\ qs p.row = qs (nx p).row /\ True /\ True /\ False /\ (1 : Int) = (y : Int) + 1 /\ True) /\ [x.num, (x.den : Int)] = [x.num, (x.den : Int)] /\ [(((qs p.row).getD (0 : Nat) (0, 0)).fst, ((qs p.row).getD (0 : Nat) (0, 0)).snd)] = qs (nx p).left /\ [(((qs p.row).getD ((↑(qs p.row).length : Int) - 1).toNat ((0 : Int), (0 : Int))).fst, ((qs p.row).getD ((↑(qs p.row).length : Int) - 1).toNat ((0 : Int), (0 : Int))).snd)] ++ [] = qs (nx p).right /\ False) /\ (∀ (y : Unit), (nx p).row.length = 1 -> True /\ True /\ ((∃ (y : P3), ((Rw D M b x l y.row [] [] /\ (1 : Nat) <= y.row.length /\ y.left = [] /\ y.right = []) /\ y.row.length + 1 < p.row.length + 1) /\ (True /\ ([] : List (Int × Int)) = qs y.row /\ False /\ False /\ True) /\ [x.num, (x.den : Int)] = [x.num, (x.den : Int)] /\ True) ∨ (∃ (y : P3), ((Rw D M b x l y.row y.left y.right /\ (1 : Nat) <= y.row.length) /\ y.row.length < p.row.length + 1) /\ (True /\ False /\ False /\ False /\ True) /\ [x.num, (x.den : Int)] = [x.num, (x.den : Int)] /\ qs (nx p).left = qs y.row /\ qs (nx p).right = qs y.left /\ False) ∨ ∃ (y : P3), (Rw D M b x l [] y.left y.right /\ (0 : Nat) < p.row.length + 1) /\ (True /\ True /\ True /\ True /\ True) /\ [x.num, (x.den : Int)] = [x.num, (x.den : Int)] /\ qs (nx p).left = qs y.left /\ qs (nx p).right = qs y.right /\ True)) /\ (∀ (y : Unit), (2 : Nat) <= (nx p).row.length -> True /\ True /\ ((∃ (y : P3), ((Rw D M b x l y.row [] [] /\ (1 : Nat) <= y.row.length /\ y.left = [] /\ y.right = []) /\ y.row.length + 1 < p.row.length + 1) /\ (True /\ False /\ False /\ False /\ True) /\ [x.num, (x.den : Int)] = [x.num, (x.den : Int)] /\ True) ∨ (∃ (y : P3), ((Rw D M b x l y.row y.left y.right /\ (1 : Nat) <= y.row.length) /\ y.row.length < p.row.length + 1) /\ (True /\ True /\ True /\ True /\ True) /\ [x.num, (x.den : Int)] = [x.num, (x.den : Int)] /\ qs (dcs x (nx p).row) = qs y.row /\ qs (nx p).left = qs y.left /\ qs (nx p).right = qs y.right /\ True) ∨ ∃ (y : P3), (Rw D M b x l [] y.left y.right /\ (0 : Nat) < p.row.length + 1) /\ (True /\ False /\ False /\ False /\ True) /\ [x.num, (x.den : Int)] = [x.num, (x.den : Int)] /\ qs (dcs x (nx p).row) = qs y.left /\ qs (nx p).left = qs y.right /\ True)) /\ True) /\ (¬(0 : Int) < (↑(qs p.row).length : Int) -> ∃ (y : Unit), True /\ (False /\ False /\ True) /\ False)) (by kernel_rfl) ?_
   simp only [zz]
   obtain ⟨r, h0, e1, e2⟩ := hp
   have hq := qs_length p.row
   have hl := r.lens
   have hn := h.len
   have r' := r.next h h0
   have e3 : ((p.row.length : Int) - 1).toNat = p.row.length - 1 := by omega
   have e4 : nx p = ⟨p.row, [] ++ [p.row.getD 0 0], [p.row.getD (p.row.length - 1) 0]⟩ := by unfold nx; rw [e1, e2]
   rw [hq, e3, qs_getD (show 0 < p.row.length by omega), qs_getD (show p.row.length - 1 < p.row.length by omega), e4]
   refine ⟨fun _ => ⟨by unfold idxPre; omega, by unfold sumPre; simp, by simp only [inR]; omega, by unfold idxPre; omega, by unfold sumPre; simp, by rw [<- e4]; exact hL _, ⟨rfl, rfl, rfl⟩, fun _ h1 => ⟨⟨[], [] ++ [p.row.getD 0 0], [p.row.getD (p.row.length - 1) 0]⟩, ⟨?_, by omega⟩, rfl, rfl⟩, fun _ h1 => ⟨⟨dcs x p.row, [] ++ [p.row.getD 0 0], [p.row.getD (p.row.length - 1) 0]⟩, ⟨⟨r', ?_⟩, ?_⟩, rfl, rfl, rfl⟩⟩, fun h1 => h1 (by omega)⟩
   · have h1' : p.row.length = 1 := h1
     have : dcs x p.row = [] := List.length_eq_zero_iff.mp (by rw [dcs_length]; omega)
     rw [this] at r'; exact r'
   · have h1' : 2 <= p.row.length := h1
     rw [dcs_length]; omega
   · have h1' : 2 <= p.row.length := h1
     simp only [dcs_length]; omega
 · have hL := loop40_2 x (nx p) false D M b l _ _ h hp.1 hp.2
   refine of_eq (q := True /\ True /\ True /\ ((0 : Int) < (↑(qs p.row).length : Int) -> True /\ True /\ idxPre (0 : Int) (qs p.row).length /\ True /\ True /\ sumPre (qs p.left).length [(((qs p.row).getD (0 : Nat) (0, 0)).fst, ((qs p.row).getD (0 : Nat) (0, 0)).snd)].length (nat_lit 16) /\ True /\ True /\ True /\ True /\ inR .i64 ((↑(qs p.row).length : Int) - 1) /\ idxPre ((↑(qs p.row).length : Int) - 1) (qs p.row).length /\ True /\ True /\ True /\ sumPre [(((qs p.row).getD ((↑(qs p.row).length : Int) - 1).toNat ((0 : Int), (0 : Int))).fst, ((qs p.row).getD ((↑(qs p.row).length : Int) - 1).toNat ((0 : Int), (0 : Int))).snd)].length (qs p.right).length (nat_lit 16) /\ True /\ True /\ True /\ LoopOK X40 L40_2 { J := chks (0 : Nat) [(3 : Nat), (6 : Nat), (7 : Nat), (8 : Nat), (9 : Nat), (10 : Nat)] (fj40 x (nx p) false), exits := List.map (fun (x : List Nat × Ex) => x.snd) (ej40 x (nx p)) } (bodyR X40.m0 (ex40 x l) R) /\ ((∃ (y : Unit), True /\ (True /\ True /\ True /\ True /\ True /\ (1 : Int) = 1 /\ True) /\ [x.num, (x.den : Int)] = [x.num, (x.den : Int)] /\ qs p.row = qs (nx p).row /\ qs p.left ++ [(((qs p.row).getD (0 : Nat) (0, 0)).fst, ((qs p.row).getD (0 : Nat) (0, 0)).snd)] = qs (nx p).left /\ [(((qs p.row).getD ((↑(qs p.row).length : Int) - 1).toNat ((0 : Int), (0 : Int))).fst, ((qs p.row).getD ((↑(qs p.row).length : Int) - 1).toNat ((0 : Int), (0 : Int))).snd)] ++ qs p.right = qs (nx p).right /\ True) ∨ ∃ (y : Nat), ((1 : Nat) <= y /\ y + 1 <= (nx p).row.length) /\ (True /\ True /\ True /\ True /\ False /\ (1 : Int) = (y : Int) + 1 /\ True) /\ [x.num, (x.den : Int)] = [x.num, (x.den : Int)] /\ qs p.row = qs (nx p).row /\ qs p.left ++ [(((qs p.row).getD (0 : Nat) (0, 0)).fst, ((qs p.row).getD (0 : Nat) (0, 0)).snd)] = qs (nx p).left /\ [(((qs p.row).getD ((↑(qs p.row).length : Int) - 1).toNat ((0 : Int), (0 : Int))).fst, ((qs p.row).getD ((↑(qs p.row).length : Int) - 1).toNat ((0 : Int), (0 : Int))).snd)] ++ qs p.right = qs (nx p).right /\ False) /\ (∀ (y : Unit), (nx p).row.length = 1 -> True /\ True /\ ((∃ (y : P3), ((Rw D M b x l y.row [] [] /\ (1 : Nat) <= y.row.length /\ y.left = [] /\ y.right = []) /\ y.row.length + 1 < p.row.length) /\ (True /\ ([] : List (Int × Int)) = qs y.row /\ False /\ False /\ True) /\ [x.num, (x.den : Int)] = [x.num, (x.den : Int)] /\ True) ∨ (∃ (y : P3), ((Rw D M b x l y.row y.left y.right /\ (1 : Nat) <= y.row.length) /\ y.row.length < p.row.length) /\ (True /\ False /\ False /\ False /\ True) /\ [x.num, (x.den : Int)] = [x.num, (x.den : Int)] /\ qs (nx p).left = qs y.row /\ qs (nx p).right = qs y.left /\ False) ∨ ∃ (y : P3), (Rw D M b x l [] y.left y.right /\ (0 : Nat) < p.row.length) /\ (True /\ True /\ True /\ True /\ True) /\ [x.num, (x.den : Int)] = [x.num, (x.den : Int)] /\ qs (nx p).left = qs y.left /\ qs (nx p).right = qs y.right /\ True)) /\ (∀ (y : Unit), (2 : Nat) <= (nx p).row.length -> True /\ True /\ ((∃ (y : P3), ((Rw D M b x l y.row [] [] /\ (1 : Nat) <= y.row.length /\ y.left = [] /\ y.right = []) /\ y.row.length + 1 < p.row.length) /\ (True /\ False /\ False /\ False /\ True) /\ [x.num, (x.den : Int)] = [x.num, (x.den : Int)] /\ True) ∨ (∃ (y : P3), ((Rw D M b x l y.row y.left y.right /\ (1 : Nat) <= y.row.length) /\ y.row.length < p.row.length) /\ (True /\ True /\ True /\ True /\ True) /\ [x.num, (x.den : Int)] = [x.num, (x.den : Int)] /\ qs (dcs x (nx p).row) = qs y.row /\ qs (nx p).left = qs y.left /\ qs (nx p).right = qs y.right /\ True) ∨ ∃ (y : P3), (Rw D M b x l [] y.left y.right /\ (0 : Nat) < p.row.length) /\ (True /\ False /\ False /\ False /\ True) /\ [x.num, (x.den : Int)] = [x.num, (x.den : Int)] /\ qs (dcs x (nx p).row) = qs y.left /\ qs (nx p).left = qs y.right /\ True)) /\ True) /\ (¬(0 : Int) < (↑(qs p.row).length : Int) -> ∃ (y : Unit), True /\ (True /\ True /\ True) /\ qs p.left = qs (dvL x l) /\ qs p.right = qs (dvR x l) /\ True)) (by kernel_rfl) ?_
   simp only [zz]
   obtain ⟨r, h0⟩ := hp
   have hq := qs_length p.row
   have hl := r.lens
   have hn := h.len
   have r' := r.next h h0
   have e3 : ((p.row.length : Int) - 1).toNat = p.row.length - 1 := by omega
   rw [hq, e3, qs_getD (show 0 < p.row.length by omega), qs_getD (show p.row.length - 1 < p.row.length by omega)]
   refine ⟨fun _ => ⟨by unfold idxPre; omega, by unfold sumPre; simp [qs_length]; omega, by simp only [inR]; omega, by unfold idxPre; omega, by unfold sumPre; simp [qs_length]; omega, hL _, ⟨rfl, by simp [nx, qs]; rfl, rfl⟩, fun _ h1 => ⟨⟨[], (nx p).left, (nx p).right⟩, ⟨?_, by omega⟩, rfl, rfl⟩, fun _ h1 => ⟨⟨dcs x p.row, (nx p).left, (nx p).right⟩, ⟨⟨r', ?_⟩, ?_⟩, rfl, rfl, rfl⟩⟩, fun h1 => by omega⟩
   · have h1' : p.row.length = 1 := h1
     have : dcs x p.row = [] := List.length_eq_zero_iff.mp (by rw [dcs_length]; omega)
     rw [this] at r'; exact r'
   · have h1' : 2 <= p.row.length := h1
     rw [dcs_length]; omega
   · have h1' : 2 <= p.row.length := h1
     simp only [dcs_length]; omega
 · refine of_eq (q := True /\ True /\ True /\ ((0 : Int) < 0 -> True /\ True /\ False) /\ (¬(0 : Int) < 0 -> ∃ (y : Unit), True /\ (True /\ True /\ True) /\ qs p.left = qs (dvL x l) /\ qs p.right = qs (dvR x l) /\ True)) (by kernel_rfl) ?_
   simp only [zz]
   have hL := hp.L
   have hR := hp.R
   simp only [List.length_nil, divL, divR, List.append_nil] at hL hR
   exact ⟨fun h => by omega, fun _ => ⟨by rw [hL], by rw [hR]⟩⟩
theorem call40 (x : Rat) (D M b : Int) (l : List Rat) (h : Dv D M b x l) : GCall Tryd.prog gl 40 false [.sl Q2 (qs l), ofD Q2 (qp x)] [] [.sl Q2 (qs (dvL x l)), .sl Q2 (qs (dvR x l))] [] := by
 refine gcall_of (X := X40) (X40_ok) (f := 40) (fn := Tryd.f40) (c := bodyOf Tryd.f40) (by kernel_rfl) (by kernel_rfl) (view := true) (rvs := [.tmp 4, .tmp 5]) (by kernel_rfl) (H := (H40 x D M b l)) 80 (by kernel_rfl) ?_
 have hL := loop40 x D M b l h
 refine of_eq (q := True /\ True /\ True /\ True /\ True /\ True /\ True /\ True /\ sumPre (0 : Nat) (qs l).length (nat_lit 16) /\ True /\ LoopOK X40 L40_0 { J := chks (0 : Nat) [(3 : Nat), (6 : Nat), (7 : Nat), (8 : Nat)] (fm40 x D M b l), exits := List.map (fun (x : List Nat × Ex) => x.snd) (ex40 x l) } (RetR X40 false true [ResultVar.tmp (4 : Tmp), ResultVar.tmp (5 : Tmp)] [AV.sl Q2 (qs (dvL x l)), AV.sl Q2 (qs (dvR x l))] []) /\ ((∃ (y : P3), (Rw D M b x l y.row [] [] /\ (1 : Nat) <= y.row.length /\ y.left = [] /\ y.right = []) /\ (True /\ qs l = qs y.row /\ True /\ True /\ True) /\ [x.num, (x.den : Int)] = [x.num, (x.den : Int)] /\ True) ∨ (∃ (y : P3), (Rw D M b x l y.row y.left y.right /\ (1 : Nat) <= y.row.length) /\ (True /\ False /\ False /\ False /\ True) /\ [x.num, (x.den : Int)] = [x.num, (x.den : Int)] /\ False) ∨ ∃ (y : P3), Rw D M b x l [] y.left y.right /\ (True /\ False /\ False /\ False /\ True) /\ [x.num, (x.den : Int)] = [x.num, (x.den : Int)] /\ False) /\ (∀ (y : Unit), True -> True /\ True /\ True /\ True /\ True /\ (qs (dvL x l) = qs (dvL x l) /\ qs (dvR x l) = qs (dvR x l) /\ True) /\ True) /\ True) (by kernel_rfl) ?_
 simp only [zz]
 have := h.len
 exact ⟨by unfold sumPre; rw [qs_length]; omega, hL _, ⟨⟨l, [], []⟩, ⟨.first h, h.len.1, rfl, rfl⟩, rfl⟩, fun _ _ => trivial⟩
def rats (l : List (Int × Int)) : List Rat := l.map rat
theorem rats_qs (l : List Rat) : rats (qs l) = l := by
 induction l with
 | nil => rfl
 | cons a l ih => simp only [qs, rats, List.map_cons, rat_qp] at ih |-; rw [ih]
def goodL (l : List (Int × Int)) : Prop := qs (rats l) = l
theorem goodL_qs (l : List Rat) : goodL (qs l) := by unfold goodL; rw [rats_qs]
def e40 : Entry Tryd.prog gl := entry2 40 ⟨Tryd.f40, by kernel_rfl, by kernel_rfl, by kernel_rfl⟩ SQ Q2 (fun l x => goodL l /\ good x /\ ∃ D M b, Dv D M b (rat x) (rats l)) false (fun l x => [.sl Q2 (qs (dvL (rat x) (rats l))), .sl Q2 (qs (dvR (rat x) (rats l)))]) (fun _ _ => []) (fun l x h => by obtain ⟨h1, h2, D, M, b, h3⟩ := h; have := call40 _ D M b _ h3; rwa [h1, h2] at this)
noncomputable def L16_0 : Code := lp (bodyOf Tryd.f16) 0
def st16 (p : List Int) (d k : Nat) (j : Nat) : St := ⟨.dead :: .dead :: .dead :: .ptr 0 0 [] :: .dead :: .sl Q2 (qs (cnr p (d - j) (k / 2 ^ j))) :: .int .i64 (j - 1 : Int) :: dd 26, [.bx (ofD Q2 ((d : Int), (k : Int)))]⟩
def ex16 (p : List Int) (d k : Nat) : List (List Nat × Ex) := [([5], ⟨0, Unit, fun _ => True, fun _ => ⟨.dead :: .dead :: .dead :: .dead :: .dead :: .sl Q2 (qs (cnr p d k)) :: dd 27, []⟩⟩)]
noncomputable def H16 (p : List Int) (d k : Nat) : Nat -> Option Hint := fun _ => some ⟨chk 0 [3, 5, 6] (fun j => j <= d) (st16 p d k), (ex16 p d k).map (·.2)⟩
theorem loop16 (p : List Int) (hp : isPoly p) (d k : Nat) (hd : d <= 6) (hk : k < 2 ^ d) (R : Exit -> St -> Prop) : LoopOK (X [e40]) L16_0 ⟨chk 0 [3, 5, 6] (fun j => j <= d) (st16 p d k), (ex16 p d k).map (·.2)⟩ R := by
 refine loop_ok (X_ok [e40]) (H := fun _ _ => none) [3, 5, 6] (fun j => j <= d) (st16 p d k) (fun j => j) (ex16 p d k) 80 fun j hj => ?_
 refine of_eq (q := True /\ True /\ ((0 : Int) <= (j : Int) - 1 -> True /\ True /\ ((goodL (qs (cnr p (d - j) (k / (2 : Nat) ^ j))) /\ good ((1 : Int), (2 : Int)) /\ ∃ (D : Int), ∃ (M : Int), ∃ (b : Int), Dv D M b (rat ((1 : Int), (2 : Int))) (rats (qs (cnr p (d - j) (k / (2 : Nat) ^ j))))) /\ True) /\ True /\ True /\ True /\ True /\ True /\ idxPre (1 : Int) (2 : Nat) /\ True /\ True /\ ((0 : Int) <= (j : Int) - 1 /\ (j : Int) - 1 < bitsOf .i64) /\ ¬(2 : Int) = 0 /\ True /\ (((k : Int) / (2 : Int) ^ ((j : Int) - 1).toNat).tmod (2 : Int) = 0 -> True /\ True /\ True /\ inR .i64 ((j : Int) - 1 - 1) /\ True /\ ∃ (y : Nat), (y <= d /\ y < j) /\ (True /\ qs (dvL (rat ((1 : Int), (2 : Int))) (rats (qs (cnr p (d - j) (k / (2 : Nat) ^ j))))) = qs (cnr p (d - y) (k / (2 : Nat) ^ y)) /\ (j : Int) - 1 - 1 = (y : Int) - 1 /\ True) /\ [(d : Int), (k : Int)] = [(d : Int), (k : Int)] /\ True) /\ (¬((k : Int) / (2 : Int) ^ ((j : Int) - 1).toNat).tmod (2 : Int) = 0 -> True /\ True /\ True /\ inR .i64 ((j : Int) - 1 - 1) /\ True /\ ∃ (y : Nat), (y <= d /\ y < j) /\ (True /\ qs (dvR (rat ((1 : Int), (2 : Int))) (rats (qs (cnr p (d - j) (k / (2 : Nat) ^ j))))) = qs (cnr p (d - y) (k / (2 : Nat) ^ y)) /\ (j : Int) - 1 - 1 = (y : Int) - 1 /\ True) /\ [(d : Int), (k : Int)] = [(d : Int), (k : Int)] /\ True)) /\ (¬(0 : Int) <= (j : Int) - 1 -> ∃ (y : Unit), True /\ (qs (cnr p (d - j) (k / (2 : Nat) ^ j)) = qs (cnr p d k) /\ True) /\ True)) (by kernel_rfl) ?_
 simp only [zz]
 refine ⟨fun h => ?_, fun h => by rw [show j = 0 by omega]; simp⟩
 obtain ⟨j, rfl⟩ : ∃ i, j = i + 1 := ⟨j - 1, by omega⟩
 have e : ((j + 1 : Nat) : Int) - 1 = (j : Int) := by omega
 obtain ⟨m, hm⟩ : ∃ m, d - j = m + 1 := ⟨d - j - 1, by omega⟩
 have hm2 : d - (j + 1) = m := by omega
 have hc := cnr_dv hp.2.2 hp.1 hp.2.1 m (k / 2 ^ (j + 1)) (by omega)
 have e2 : k / 2 ^ (j + 1) = k / 2 ^ j / 2 := by rw [Nat.pow_succ, Nat.div_div_eq_div_mul]
 have e3 : ((k : Int) / 2 ^ j).tmod 2 = ((k / 2 ^ j % 2 : Nat) : Int) := by
   rw [show ((k : Int) / 2 ^ j) = ((k / 2 ^ j : Nat) : Int) by rw [Int.natCast_ediv, Int.natCast_pow]; rfl]
   rfl
 rw [e, Int.toNat_natCast, rats_qs, rat_half, hm2, e3]
 refine ⟨⟨goodL_qs _, good_half, _, _, _, hc.2 (by omega)⟩, i12, by simp only [bitsOf]; omega, by omega, fun h0 => ⟨by simp only [inR]; omega, j, by omega, ?_, by omega⟩, fun h0 => ⟨by simp only [inR]; omega, j, by omega, ?_, by omega⟩⟩
 · rw [hm]; conv => rhs; unfold cnr
   rw [if_pos (by omega), e2]
 · rw [hm]; conv => rhs; unfold cnr
   rw [if_neg (by omega), e2]
theorem call16 (p : List Int) (d k : Nat) (h : isPoly p /\ d <= 6 /\ k < 2 ^ d) : GCall Tryd.prog gl 16 false [.sl I64 p, ofD Q2 ((d : Int), (k : Int))] [] [.sl Q2 (qs (cnr p d k))] [] := by
 refine gcall_of (X := X [e60,e40]) (X_ok [e60,e40]) (f := 16) (fn := Tryd.f16) (c := bodyOf Tryd.f16) (by kernel_rfl) (by kernel_rfl) (view := false) (rvs := [.tmp 4]) (by kernel_rfl) (H := (H16 p d k)) 80 (by kernel_rfl) ?_
 have hL := loop16 p h.1 d k h.2.1 h.2.2
 refine of_eq (q := True /\ True /\ True /\ (((1 : Nat) <= p.length /\ p.length <= 7 /\ coefs p) /\ True) /\ True /\ idxPre (0 : Int) (2 : Nat) /\ True /\ inR .i64 ((d : Int) - 1) /\ True /\ LoopOK (X [e40]) L16_0 { J := chk (0 : Nat) [(3 : Nat), (5 : Nat), (6 : Nat)] (fun (j : Nat) => j <= d) (st16 p d k), exits := List.map (fun (x : List Nat × Ex) => x.snd) (ex16 p d k) } (RetR (X [e60, e40]) false false [ResultVar.tmp (4 : Tmp)] [AV.sl Q2 (qs (cnr p d k))] []) /\ (∃ (y : Nat), y <= d /\ (True /\ qs (whole p) = qs (cnr p (d - y) (k / (2 : Nat) ^ y)) /\ (d : Int) - 1 = (y : Int) - 1 /\ True) /\ [(d : Int), (k : Int)] = [(d : Int), (k : Int)] /\ True) /\ (∀ (y : Unit), True -> True /\ True /\ True /\ (qs (cnr p d k) = qs (cnr p d k) /\ True) /\ True) /\ True) (by kernel_rfl) ?_
 simp only [zz]
 refine ⟨h.1, i02, by simp only [inR]; omega, hL _, ⟨d, Nat.le_refl _, ?_, rfl⟩, fun _ _ => trivial⟩
 rw [Nat.sub_self, Nat.div_eq_of_lt h.2.2]; try rfl
theorem call16' (p : List Int) (x : Int × Int) (h : isPoly p /\ isPiece x) : GCall Tryd.prog gl 16 false [.sl I64 p, ofD Q2 x] [] [.sl Q2 (qs (cnr p x.1.toNat x.2.toNat))] [] := by
 have h2 : isPiece x := h.2
 unfold isPiece at h2
 have e : ((2 ^ x.1.toNat : Nat) : Int) = 2 ^ x.1.toNat := by rw [Int.natCast_pow]; try rfl
 have := call16 p x.1.toNat x.2.toNat ⟨h.1, by omega, by omega⟩
 rw [Int.toNat_of_nonneg h2.1, Int.toNat_of_nonneg h2.2.2.1] at this
 exact this
def e16 : Entry Tryd.prog gl := entry2 16 ⟨Tryd.f16, by kernel_rfl, by kernel_rfl, by kernel_rfl⟩ SI Q2 (fun p x => isPoly p /\ isPiece x) false (fun p x => [.sl Q2 (qs (cnr p x.1.toNat x.2.toNat))]) (fun _ _ => []) (call16')
end Go.Am.Bern

/- Bern: the program's divisions. -/
namespace Go.Am.Bern
open Go Go.Am Go.Proofs
noncomputable def L83_0 : Code := lp (bodyOf Tryd.f83) 0
noncomputable def L83_2 : Code := lp (bodyOf Tryd.f83) 2
def bxF (x : Rat) : Ob := .bx (ofD FR (qp x))
def sF (l : List (Int × Int)) : Ob := .sc 0 106 FR l
def res83 : Ob := .bx (.ar SF 2 [[], []])
structure P4 where
 row : List Rat
 left : List Rat
 right : List Rat
 junk : List (Int × Int)
def zs (n : Nat) : List (Int × Int) := List.replicate n (0, 0)
def st83 (x : Rat) (p : P4) : St := ⟨.dead :: .dead :: .dead :: .ptr 0 0 [] :: .ptr 1 0 [] :: .ptr 2 0 [] :: .dead :: .ptr 3 0 [] :: .own 4 0 :: .own 5 0 :: .int .i64 p.row.length :: dd 66,
 [bxF x, res83, .bx (.ar FR 7 (qs p.row ++ p.junk)), bxF (1 - x), sF (qs p.left), sF (zs p.row.length ++ qs p.right)]⟩
def inv83 (D M b : Int) (x : Rat) (l : List Rat) (p : P4) : Prop := Rw D M b x l p.row p.left p.right /\ p.row.length + p.junk.length = 7
def ex83 (x : Rat) (l : List Rat) : List (List Nat × Ex) := [([4, 8, 9], ⟨0, Unit, fun _ => True, fun _ => ⟨.dead :: .dead :: .dead :: .dead :: .ptr 0 0 [] :: .dead :: .dead :: .dead :: .own 1 0 :: .own 2 0 :: dd 67, [res83, sF (qs (dvL x l)), sF (qs (dvR x l))]⟩⟩)]
def arr83 (x : Rat) (p : P4) (i : Nat) : List (Int × Int) := qs ((dcs x p.row).take i) ++ ((qs p.row).drop i ++ p.junk)
def sj83 (x : Rat) (p : P4) (i : Nat) : St := ⟨.dead :: .dead :: .dead :: .ptr 0 0 [] :: .ptr 1 0 [] :: .ptr 2 0 [] :: .dead :: .ptr 3 0 [] :: .own 4 0 :: .own 5 0 :: .int .i64 p.row.length :: .sub 2 0 [] 0 p.row.length :: .dead :: dd 39 ++ (.int .i64 (p.row.length - 1 : Int) :: .int .i64 i :: dd 23),
 [bxF x, res83, .bx (.ar FR 7 (arr83 x p i)), bxF (1 - x), sF (qs p.left), sF (zs (p.row.length - 1) ++ qs p.right)]⟩
def ej83 (x : Rat) (p : P4) : List (List Nat × Ex) := [([3, 4, 5, 7, 8, 9, 10], ⟨2, Unit, fun _ => True, fun _ => ⟨.dead :: .dead :: .dead :: .ptr 0 0 [] :: .ptr 1 0 [] :: .ptr 2 0 [] :: .dead :: .ptr 3 0 [] :: .own 4 0 :: .own 5 0 :: .int .i64 p.row.length :: dd 66,
 [bxF x, res83, .bx (.ar FR 7 (arr83 x p (p.row.length - 1))), bxF (1 - x), sF (qs p.left), sF (zs (p.row.length - 1) ++ qs p.right)]⟩⟩)]
def nx83 (p : P4) : P4 := ⟨p.row, p.left ++ [p.row.getD 0 0], p.row.getD (p.row.length - 1) 0 :: p.right, p.junk⟩
theorem getD_app {α : Type} {a b : List α} {n k : Nat} {d : α} (h : a.length = n) : (a ++ b).getD (n + k) d = b.getD k d := by
 subst h; simp [List.getD_eq_getElem?_getD, List.getElem?_append_right]
theorem set_app {α : Type} {a b : List α} {n : Nat} {v : α} (h : a.length = n) : (a ++ b).set n v = a ++ b.set 0 v := by
 subst h; rw [List.set_append_right _ _ (by omega), Nat.sub_self]
theorem arr_pre (x : Rat) (p : P4) {i : Nat} (hi : i + 1 <= p.row.length) : (qs ((dcs x p.row).take i)).length = i := by
 rw [qs_length, List.length_take, dcs_length]; omega
theorem arr_get (x : Rat) (p : P4) {i k : Nat} (hi : i + 1 <= p.row.length) (hk : i + k < p.row.length) : (arr83 x p i).getD (i + k) (0, 0) = qp (p.row.getD (i + k) 0) := by
 have h := arr_pre x p hi
 unfold arr83
 rw [getD_app h, getD_append_left (by rw [List.length_drop, qs_length]; omega)]
 rw [<- qs_getD hk]
 simp only [List.getD_eq_getElem?_getD, List.getElem?_drop]
theorem arr_set (x : Rat) (p : P4) {i : Nat} (hi : i + 1 < p.row.length) : (arr83 x p i).set i (qp (avg x (p.row.getD i 0) (p.row.getD (i + 1) 0))) = arr83 x p (i + 1) := by
 have h := arr_pre x p (i := i) (by omega)
 unfold arr83
 rw [set_app h, drop_getD (d := (0, 0)) (n := i) (by rw [qs_length]; omega), List.cons_append, List.set_cons_zero, dcs_take x hi]
 simp [qs]
theorem Dv.bsmall {D M b : Int} {x : Rat} {l : List Rat} (h : Dv D M b x l) : b < 4294967296 := by
 have h2 := h.pow (j := 2) (by omega)
 have hb := h.b1
 have hD := h.hD
 refine Int.not_le.mp fun hge => ?_
 have e : b ^ 2 = b * b := by rw [Int.pow_succ, Int.pow_one]
 have h3 : (4294967296 : Int) * 4294967296 <= b * b := Int.mul_le_mul hge hge (by omega) (by omega)
 have h4 := Int.mul_le_mul_of_nonneg_right (show 1 <= D by omega) (show 0 <= b * b by omega)
 rw [e] at h2
 omega
theorem one_sub_ok {D M b : Int} {x : Rat} {l : List Rat} (h : Dv D M b x l) : addOk 1 (-x) := by
 have hb := h.b1; have hs := h.bsmall; have hx := h.hx; have e := h.hb
 refine ⟨b, b, b, by omega, by omega, ⟨b, (Rat.divInt_self' (by omega)).symm, by omega, by omega⟩, ?_, by omega⟩
 refine fr.neg ⟨x.num, ?_, by omega, by omega⟩
 rw [<- e, Rat.num_divInt_den]
noncomputable def H83 (x : Rat) (D M b : Int) (l : List Rat) (p : P4) : Nat -> Option Hint
 | 0 => some ⟨chk 0 [3, 4, 5, 7, 8, 9, 10] (inv83 D M b x l) (st83 x), (ex83 x l).map (·.2)⟩
 | 2 => some ⟨chk 0 [3, 4, 5, 7, 8, 9, 10, 11, 52, 53] (fun i => i + 1 <= p.row.length) (sj83 x (nx83 p)), (ej83 x (nx83 p)).map (·.2)⟩
 | _ => none
theorem loop83_2 (x : Rat) (p : P4) (D M b : Int) (l left right : List Rat) (h : Dv D M b x l) (r : Rw D M b x l p.row left right) (h0 : 1 <= p.row.length) (hj : p.row.length + p.junk.length = 7) (R : Exit -> St -> Prop) :
   LoopOK (X [e81, e82]) L83_2 ⟨chk 0 [3, 4, 5, 7, 8, 9, 10, 11, 52, 53] (fun i => i + 1 <= p.row.length) (sj83 x p), (ej83 x p).map (·.2)⟩ R := by
 refine loop_ok (X_ok [e81, e82]) (H := fun _ _ => none) [3, 4, 5, 7, 8, 9, 10, 11, 52, 53] (fun i => i + 1 <= p.row.length) (sj83 x p) (fun i => p.row.length - i) (ej83 x p) 90 fun i hi => ?_
 refine of_eq (q := True /\ ((i : Int) < (p.row.length : Int) - 1 -> True /\ True /\ True /\ True /\ True /\ True /\ idxPre (i : Int) p.row.length /\ True /\ True /\ (good (((arr83 x p i).getD ((0 : Nat) + i) (0, 0)).fst, ((arr83 x p i).getD ((0 : Nat) + i) (0, 0)).snd) /\ good (((1 : Rat) - x).num, (↑((1 : Rat) - x).den : Int)) /\ mulOk (rat (((arr83 x p i).getD ((0 : Nat) + i) (0, 0)).fst, ((arr83 x p i).getD ((0 : Nat) + i) (0, 0)).snd)) (rat (((1 : Rat) - x).num, (↑((1 : Rat) - x).den : Int)))) /\ True /\ True /\ inR .i64 ((i : Int) + 1) /\ idxPre ((i : Int) + 1) p.row.length /\ True /\ True /\ (good (((arr83 x p i).getD ((0 : Nat) + (i + 1)) (0, 0)).fst, ((arr83 x p i).getD ((0 : Nat) + (i + 1)) (0, 0)).snd) /\ good (x.num, (x.den : Int)) /\ mulOk (rat (((arr83 x p i).getD ((0 : Nat) + (i + 1)) (0, 0)).fst, ((arr83 x p i).getD ((0 : Nat) + (i + 1)) (0, 0)).snd)) (rat (x.num, (x.den : Int)))) /\ (good ((rat (((arr83 x p i).getD ((0 : Nat) + i) (0, 0)).fst, ((arr83 x p i).getD ((0 : Nat) + i) (0, 0)).snd) * rat (((1 : Rat) - x).num, (↑((1 : Rat) - x).den : Int))).num, (↑(rat (((arr83 x p i).getD ((0 : Nat) + i) (0, 0)).fst, ((arr83 x p i).getD ((0 : Nat) + i) (0, 0)).snd) * rat (((1 : Rat) - x).num, (↑((1 : Rat) - x).den : Int))).den : Int)) /\ good ((rat (((arr83 x p i).getD ((0 : Nat) + (i + 1)) (0, 0)).fst, ((arr83 x p i).getD ((0 : Nat) + (i + 1)) (0, 0)).snd) * rat (x.num, (x.den : Int))).num, (↑(rat (((arr83 x p i).getD ((0 : Nat) + (i + 1)) (0, 0)).fst, ((arr83 x p i).getD ((0 : Nat) + (i + 1)) (0, 0)).snd) * rat (x.num, (x.den : Int))).den : Int)) /\ addOk (rat ((rat (((arr83 x p i).getD ((0 : Nat) + i) (0, 0)).fst, ((arr83 x p i).getD ((0 : Nat) + i) (0, 0)).snd) * rat (((1 : Rat) - x).num, (↑((1 : Rat) - x).den : Int))).num, (↑(rat (((arr83 x p i).getD ((0 : Nat) + i) (0, 0)).fst, ((arr83 x p i).getD ((0 : Nat) + i) (0, 0)).snd) * rat (((1 : Rat) - x).num, (↑((1 : Rat) - x).den : Int))).den : Int))) (rat ((rat (((arr83 x p i).getD ((0 : Nat) + (i + 1)) (0, 0)).fst, ((arr83 x p i).getD ((0 : Nat) + (i + 1)) (0, 0)).snd) * rat (x.num, (x.den : Int))).num, (↑(rat (((arr83 x p i).getD ((0 : Nat) + (i + 1)) (0, 0)).fst, ((arr83 x p i).getD ((0 : Nat) + (i + 1)) (0, 0)).snd) * rat (x.num, (x.den : Int))).den : Int)))) /\ idxPre (i : Int) p.row.length /\ True /\ inR .i64 ((i : Int) + 1) /\ True /\ ∃ (y : Nat), (y + 1 <= p.row.length /\ p.row.length - y < p.row.length - i) /\ (True /\ True /\ True /\ True /\ True /\ True /\ (p.row.length : Int) = (p.row.length : Int) /\ ((0 : Nat) = 0 /\ p.row.length = p.row.length) /\ (p.row.length : Int) - 1 = (p.row.length : Int) - 1 /\ (i : Int) + 1 = (y : Int) /\ True) /\ (x.num = x.num /\ (x.den : Int) = (x.den : Int) /\ True) /\ ([] : List (Int × Int)) :: ([] : List (Int × Int)) :: ([] : List (List (Int × Int))) = [[], []] /\ (arr83 x p i).set ((0 : Nat) + i) ((rat ((rat (((arr83 x p i).getD ((0 : Nat) + i) (0, 0)).fst, ((arr83 x p i).getD ((0 : Nat) + i) (0, 0)).snd) * rat (((1 : Rat) - x).num, (↑((1 : Rat) - x).den : Int))).num, (↑(rat (((arr83 x p i).getD ((0 : Nat) + i) (0, 0)).fst, ((arr83 x p i).getD ((0 : Nat) + i) (0, 0)).snd) * rat (((1 : Rat) - x).num, (↑((1 : Rat) - x).den : Int))).den : Int)) + rat ((rat (((arr83 x p i).getD ((0 : Nat) + (i + 1)) (0, 0)).fst, ((arr83 x p i).getD ((0 : Nat) + (i + 1)) (0, 0)).snd) * rat (x.num, (x.den : Int))).num, (↑(rat (((arr83 x p i).getD ((0 : Nat) + (i + 1)) (0, 0)).fst, ((arr83 x p i).getD ((0 : Nat) + (i + 1)) (0, 0)).snd) * rat (x.num, (x.den : Int))).den : Int))).num, (↑(rat ((rat (((arr83 x p i).getD ((0 : Nat) + i) (0, 0)).fst, ((arr83 x p i).getD ((0 : Nat) + i) (0, 0)).snd) * rat (((1 : Rat) - x).num, (↑((1 : Rat) - x).den : Int))).num, (↑(rat (((arr83 x p i).getD ((0 : Nat) + i) (0, 0)).fst, ((arr83 x p i).getD ((0 : Nat) + i) (0, 0)).snd) * rat (((1 : Rat) - x).num, (↑((1 : Rat) - x).den : Int))).den : Int)) + rat ((rat (((arr83 x p i).getD ((0 : Nat) + (i + 1)) (0, 0)).fst, ((arr83 x p i).getD ((0 : Nat) + (i + 1)) (0, 0)).snd) * rat (x.num, (x.den : Int))).num, (↑(rat (((arr83 x p i).getD ((0 : Nat) + (i + 1)) (0, 0)).fst, ((arr83 x p i).getD ((0 : Nat) + (i + 1)) (0, 0)).snd) * rat (x.num, (x.den : Int))).den : Int))).den : Int)) = arr83 x p y /\ (((1 : Rat) - x).num = ((1 : Rat) - x).num /\ (↑((1 : Rat) - x).den : Int) = (↑((1 : Rat) - x).den : Int) /\ True) /\ qs p.left = qs p.left /\ zs (p.row.length - 1) ++ qs p.right = zs (p.row.length - 1) ++ qs p.right /\ True) /\ (¬(i : Int) < (p.row.length : Int) - 1 -> ∃ (y : Unit), True /\ (True /\ True /\ True /\ True /\ True /\ True /\ (p.row.length : Int) = (p.row.length : Int) /\ True) /\ (x.num = x.num /\ (x.den : Int) = (x.den : Int) /\ True) /\ ([] : List (Int × Int)) :: ([] : List (Int × Int)) :: ([] : List (List (Int × Int))) = [[], []] /\ arr83 x p i = arr83 x p (p.row.length - 1) /\ (((1 : Rat) - x).num = ((1 : Rat) - x).num /\ (↑((1 : Rat) - x).den : Int) = (↑((1 : Rat) - x).den : Int) /\ True) /\ qs p.left = qs p.left /\ zs (p.row.length - 1) ++ qs p.right = zs (p.row.length - 1) ++ qs p.right /\ True)) (by kernel_rfl) ?_
 simp only [zz]
 have hlr : p.row.length <= 7 := by omega
 refine ⟨fun h2 => ?_, fun h2 => by rw [show i = p.row.length - 1 by omega]⟩
 have ok := Rw.avg h r (k := i) (by omega)
 have a0 := arr_get x p (i := i) (k := 0) hi (by omega)
 have a1 := arr_get x p (i := i) (k := 1) hi (by omega)
 have ast := arr_set x p (i := i) (by omega)
 simp only [Nat.add_zero] at a0
 simp only [Nat.zero_add]
 rw [a0, a1]
 simp only [qp_fst, qp_snd, rat_num_den]
 exact ⟨idx_nat (by omega), ⟨good_nd _, good_nd _, ok.1⟩, by simp only [inR]; omega, by unfold idxPre; omega, ⟨good_nd _, good_nd _, ok.2.1⟩, ⟨good_nd _, good_nd _, ok.2.2⟩, idx_nat (by omega), by simp only [inR]; omega, i + 1, by omega, by simp, ast⟩
theorem loop83 (x : Rat) (D M b : Int) (l : List Rat) (h : Dv D M b x l) (R : Exit -> St -> Prop) : LoopOK (X [e81, e82]) L83_0 ⟨chk 0 [3, 4, 5, 7, 8, 9, 10] (inv83 D M b x l) (st83 x), (ex83 x l).map (·.2)⟩ R := by
 refine loop_ok (X_ok [e81, e82]) (H := fun p => H83 x D M b l p) [3, 4, 5, 7, 8, 9, 10] (inv83 D M b x l) (st83 x) (fun p => p.row.length) (ex83 x l) 90 fun p hp => ?_
 have hL : 1 <= p.row.length -> ∀ R, LoopOK (X [e81, e82]) L83_2 ⟨chk 0 [3, 4, 5, 7, 8, 9, 10, 11, 52, 53] (fun i => i + 1 <= p.row.length) (sj83 x (nx83 p)), (ej83 x (nx83 p)).map (·.2)⟩ R := fun h0 R => loop83_2 x (nx83 p) D M b l p.left p.right h hp.1 h0 hp.2 R
 refine of_eq (q := True /\ True /\ ((0 : Int) < (p.row.length : Int) -> True /\ True /\ slPre (7 : Nat) (7 : Nat) none (some (p.row.length : Int)) (some (p.row.length : Int)) /\ True /\ True /\ True /\ idxPre (0 : Int) (bHi (7 : Nat) (some (p.row.length : Int)) - bLo none) /\ True /\ True /\ sumPre (qs p.left).length [(((qs p.row ++ p.junk).getD (bLo none) (0, 0)).fst, ((qs p.row ++ p.junk).getD (bLo none) (0, 0)).snd)].length (nat_lit 16) /\ True /\ True /\ True /\ inR .i64 ((p.row.length : Int) - 1) /\ True /\ True /\ inR .i64 ((p.row.length : Int) - 1) /\ idxPre ((p.row.length : Int) - 1) (bHi (7 : Nat) (some (p.row.length : Int)) - bLo none) /\ True /\ idxPre ((p.row.length : Int) - 1) (zs p.row.length ++ qs p.right).length /\ True /\ True /\ inR .i64 ((p.row.length : Int) - 1) /\ True /\ LoopOK (X [e81, e82]) L83_2 { J := chk (0 : Nat) [(3 : Nat), (4 : Nat), (5 : Nat), (7 : Nat), (8 : Nat), (9 : Nat), (10 : Nat), (11 : Nat), (52 : Nat), (53 : Nat)] (fun (i : Nat) => i + 1 <= p.row.length) (sj83 x (nx83 p)), exits := List.map (fun (x : List Nat × Ex) => x.snd) (ej83 x (nx83 p)) } (bodyR (X [e81, e82]).m0 (ex83 x l) R) /\ (∃ (y : Nat), y + 1 <= p.row.length /\ (True /\ True /\ True /\ True /\ True /\ True /\ (p.row.length : Int) = (↑(nx83 p).row.length : Int) /\ (bLo none = 0 /\ bHi (7 : Nat) (some (p.row.length : Int)) - bLo none = (nx83 p).row.length) /\ (p.row.length : Int) - 1 = (↑(nx83 p).row.length : Int) - 1 /\ (0 : Int) = (y : Int) /\ True) /\ (x.num = x.num /\ (x.den : Int) = (x.den : Int) /\ True) /\ ([] : List (Int × Int)) :: ([] : List (Int × Int)) :: ([] : List (List (Int × Int))) = [[], []] /\ qs p.row ++ p.junk = arr83 x (nx83 p) y /\ (((1 : Rat) - x).num = ((1 : Rat) - x).num /\ (↑((1 : Rat) - x).den : Int) = (↑((1 : Rat) - x).den : Int) /\ True) /\ qs p.left ++ [(((qs p.row ++ p.junk).getD (bLo none) (0, 0)).fst, ((qs p.row ++ p.junk).getD (bLo none) (0, 0)).snd)] = qs (nx83 p).left /\ (zs p.row.length ++ qs p.right).set ((p.row.length : Int) - 1).toNat (((qs p.row ++ p.junk).getD (bLo none + ((p.row.length : Int) - 1).toNat) (0, 0)).fst, ((qs p.row ++ p.junk).getD (bLo none + ((p.row.length : Int) - 1).toNat) (0, 0)).snd) = zs ((nx83 p).row.length - 1) ++ qs (nx83 p).right /\ True) /\ (∀ (y : Unit), True -> True /\ inR .i64 ((↑(nx83 p).row.length : Int) - 1) /\ True /\ ∃ (y : P4), (inv83 D M b x l y /\ y.row.length < p.row.length) /\ (True /\ True /\ True /\ True /\ True /\ True /\ (↑(nx83 p).row.length : Int) - 1 = (y.row.length : Int) /\ True) /\ (x.num = x.num /\ (x.den : Int) = (x.den : Int) /\ True) /\ ([] : List (Int × Int)) :: ([] : List (Int × Int)) :: ([] : List (List (Int × Int))) = [[], []] /\ arr83 x (nx83 p) ((nx83 p).row.length - 1) = qs y.row ++ y.junk /\ (((1 : Rat) - x).num = ((1 : Rat) - x).num /\ (↑((1 : Rat) - x).den : Int) = (↑((1 : Rat) - x).den : Int) /\ True) /\ qs (nx83 p).left = qs y.left /\ zs ((nx83 p).row.length - 1) ++ qs (nx83 p).right = zs y.row.length ++ qs y.right /\ True) /\ True) /\ (¬(0 : Int) < (p.row.length : Int) -> ∃ (y : Unit), True /\ (True /\ True /\ True /\ True) /\ ([] : List (Int × Int)) :: ([] : List (Int × Int)) :: ([] : List (List (Int × Int))) = [[], []] /\ qs p.left = qs (dvL x l) /\ zs p.row.length ++ qs p.right = qs (dvR x l) /\ True)) (by kernel_rfl) ?_
 simp only [zz]
 obtain ⟨r, hj⟩ := hp
 have hl := r.lens
 have hn := h.len
 have hqr := qs_length p.row
 have hzl : (zs p.row.length).length = p.row.length := by simp [zs]
 simp only [bLo, bHi, Int.toNat_natCast, Nat.sub_zero, Nat.zero_add]
 refine ⟨fun h0 => ?_, fun h0 => ?_⟩
 · have h0' : 1 <= p.row.length := by omega
   have r' := r.next h h0'
   have e3 : ((p.row.length : Int) - 1).toNat = p.row.length - 1 := by omega
   have g0 : (qs p.row ++ p.junk).getD 0 (0, 0) = qp (p.row.getD 0 0) := by rw [getD_append_left (by omega), qs_getD (by omega)]
   have g1 : (qs p.row ++ p.junk).getD (p.row.length - 1) (0, 0) = qp (p.row.getD (p.row.length - 1) 0) := by rw [getD_append_left (by omega), qs_getD (by omega)]
   have hz : (zs p.row.length ++ qs p.right).set (p.row.length - 1) (qp (p.row.getD (p.row.length - 1) 0)) = zs (p.row.length - 1) ++ qs (nx83 p).right := by
     obtain ⟨n, hn'⟩ : ∃ n, p.row.length = n + 1 := ⟨p.row.length - 1, by omega⟩
     have : zs p.row.length = zs n ++ [(0, 0)] := by rw [hn']; simp [zs, List.replicate_succ']
     rw [this, List.append_assoc, hn', Nat.add_sub_cancel]
     rw [set_app (by simp [zs])]
     simp [zs, nx83, qs, hn']
   rw [e3, g0, g1]
   refine ⟨by simp only [slPre, bLo, bHi]; omega, by unfold idxPre; omega, by unfold sumPre; simp [qs_length]; omega, by simp only [inR]; omega, by simp only [inR]; omega, by unfold idxPre; omega, by unfold idxPre; simp only [List.length_append, hzl]; omega, by simp only [inR]; omega, hL h0' _, ⟨0, by omega, ⟨rfl, ⟨trivial, rfl⟩, rfl, rfl⟩, by simp [arr83, nx83, qs], by simp [nx83, qs]; rfl, hz⟩, fun _ _ => ⟨by simp only [nx83, inR]; omega, ⟨dcs x p.row, (nx83 p).left, (nx83 p).right, qp (p.row.getD (p.row.length - 1) 0) :: p.junk⟩, ⟨⟨r', ?_⟩, ?_⟩, ?_, ?_, rfl, ?_⟩⟩
   · simp only [List.length_cons, dcs_length]; omega
   · simp only [dcs_length]; omega
   · simp only [nx83, dcs_length]; omega
   · have hd : (qs p.row).drop (p.row.length - 1) = [qp (p.row.getD (p.row.length - 1) 0)] := by
       rw [drop_getD (d := (0, 0)) (by omega), qs_getD (by omega), List.drop_of_length_le (by omega)]
     simp only [arr83, nx83]
     rw [hd, List.take_of_length_le (by rw [dcs_length]; omega)]; try rfl
   · simp only [nx83, dcs_length]
 · have hr0 : p.row = [] := List.length_eq_zero_iff.mp (by omega)
   have hL := r.L
   have hR := r.R
   rw [hr0] at hL hR
   simp only [List.length_nil, divL, divR, List.append_nil] at hL hR
   exact ⟨by rw [hL], by rw [hr0, hR]; rfl⟩
theorem call83 (x : Rat) (D M b : Int) (l : List Rat) (h : Dv D M b x l) : GCall Tryd.prog gl 83 false [.sl FR (qs l), ofD FR (qp x)] [] [.ar SF 2 [qs (dvL x l), qs (dvR x l)]] [] := by
 refine gcall_of (X := X [e81,e82]) (X_ok [e81,e82]) (f := 83) (fn := Tryd.f83) (c := bodyOf Tryd.f83) (by kernel_rfl) (by kernel_rfl) (view := false) (rvs := [.cell 4 117]) (by kernel_rfl) (H := (H83 x D M b l ⟨[],[],[],[]⟩)) 100 (by kernel_rfl) ?_
 have hL := loop83 x D M b l h
 refine of_eq (q := True /\ True /\ True /\ slPre (7 : Nat) (7 : Nat) none none none /\ True /\ True /\ True /\ True /\ True /\ True /\ inR .i64 (-x.num) /\ True /\ True /\ True /\ ((good ((1 : Int), (1 : Int)) /\ good (-x.num, (x.den : Int)) /\ addOk (rat ((1 : Int), (1 : Int))) (rat (-x.num, (x.den : Int)))) /\ True) /\ True /\ True /\ True /\ ((0 : Int) <= 0 /\ (0 : Int) <= (↑(Min.min (qs l).length (bHi (7 : Nat) none - bLo none)) : Int) /\ (↑(Min.min (qs l).length (bHi (7 : Nat) none - bLo none)) : Int) * (↑(nat_lit 16) : Int) <= 140737488355328 /\ (↑(Min.min (qs l).length (bHi (7 : Nat) none - bLo none)) : Int) <= 140737488355328) /\ True /\ True /\ ((0 : Int) <= (↑(Min.min (qs l).length (bHi (7 : Nat) none - bLo none)) : Int) /\ (↑(Min.min (qs l).length (bHi (7 : Nat) none - bLo none)) : Int) <= (↑(Min.min (qs l).length (bHi (7 : Nat) none - bLo none)) : Int) /\ (↑(Min.min (qs l).length (bHi (7 : Nat) none - bLo none)) : Int) * (↑(nat_lit 16) : Int) <= 140737488355328 /\ (↑(Min.min (qs l).length (bHi (7 : Nat) none - bLo none)) : Int) <= 140737488355328) /\ True /\ True /\ True /\ LoopOK (X [e81, e82]) L83_0 { J := chk (0 : Nat) [(3 : Nat), (4 : Nat), (5 : Nat), (7 : Nat), (8 : Nat), (9 : Nat), (10 : Nat)] (inv83 D M b x l) (st83 x), exits := List.map (fun (x : List Nat × Ex) => x.snd) (ex83 x l) } (RetR (X [e81, e82]) false false [ResultVar.cell (4 : Tmp) (117 : TypeId)] [AV.ar SF (2 : Nat) [qs (dvL x l), qs (dvR x l)]] []) /\ (∃ (y : P4), inv83 D M b x l y /\ (True /\ True /\ True /\ True /\ True /\ True /\ (↑(Min.min (qs l).length (bHi (7 : Nat) none - bLo none)) : Int) = (y.row.length : Int) /\ True) /\ (x.num = x.num /\ (x.den : Int) = (x.den : Int) /\ True) /\ ([] : List (Int × Int)) :: ([] : List (Int × Int)) :: ([] : List (List (Int × Int))) = [[], []] /\ List.take (bLo none) [((0 : Int), (0 : Int)), ((0 : Int), (0 : Int)), ((0 : Int), (0 : Int)), ((0 : Int), (0 : Int)), ((0 : Int), (0 : Int)), ((0 : Int), (0 : Int)), ((0 : Int), (0 : Int))] ++ (List.take (Min.min (qs l).length (bHi (7 : Nat) none - bLo none)) (qs l) ++ List.drop (bLo none + Min.min (qs l).length (bHi (7 : Nat) none - bLo none)) [((0 : Int), (0 : Int)), ((0 : Int), (0 : Int)), ((0 : Int), (0 : Int)), ((0 : Int), (0 : Int)), ((0 : Int), (0 : Int)), ((0 : Int), (0 : Int)), ((0 : Int), (0 : Int))]) = qs y.row ++ y.junk /\ ((rat ((1 : Int), (1 : Int)) + rat (-x.num, (x.den : Int))).num = ((1 : Rat) - x).num /\ (↑(rat ((1 : Int), (1 : Int)) + rat (-x.num, (x.den : Int))).den : Int) = (↑((1 : Rat) - x).den : Int) /\ True) /\ ([] : List (Int × Int)) = qs y.left /\ List.replicate (Min.min (qs l).length (bHi (7 : Nat) none - bLo none)) ((Ty.int .i64).s2 (Ty.int .i64)).dflt = zs y.row.length ++ qs y.right /\ True) /\ (∀ (y : Unit), True -> True /\ True /\ True /\ True /\ (True /\ True) /\ ([qs (dvL x l), qs (dvR x l)] = [qs (dvL x l), qs (dvR x l)] /\ True) /\ True) /\ True) (by kernel_rfl) ?_
 simp only [zz]
 have hn := h.len
 have hq := qs_length l
 have e1 : ((1 : Int) : Rat) = 1 := rfl
 have e2 : rat (-x.num, (x.den : Int)) = -x := rat_num_den (-x)
 have hx := h.hx
 have hbs := h.bsmall
 have hbe := h.hb
 simp only [bLo, bHi, Nat.sub_zero, Nat.zero_add]
 rw [hq, show min l.length 7 = l.length by omega, e1, e2, <- Rat.sub_eq_add_neg]
 refine ⟨by simp [slPre, bLo, bHi], by simp only [inR]; omega, ⟨good_int 1, good_nd (-x), one_sub_ok h⟩, by omega, by omega, hL _, ⟨⟨l, [], [], zs (7 - l.length)⟩, ⟨.first h, by simp [zs]; omega⟩, rfl, ?_, ⟨rfl, rfl⟩, rfl, (List.append_nil _).symm⟩, fun _ _ => trivial⟩
 · rw [List.take_zero, List.nil_append, List.take_of_length_le (by omega)]
   congr 1
   rw [show ([(0, 0), (0, 0), (0, 0), (0, 0), (0, 0), (0, 0), (0, 0)] : List (Int × Int)) = List.replicate 7 (0, 0) from rfl, List.drop_replicate]; try rfl
def e83 : Entry Tryd.prog gl := entry2 83 ⟨Tryd.f83, by kernel_rfl, by kernel_rfl, by kernel_rfl⟩ SF FR (fun l x => goodL l /\ good x /\ ∃ D M b, Dv D M b (rat x) (rats l)) false (fun l x => [.ar SF 2 [qs (dvL (rat x) (rats l)), qs (dvR (rat x) (rats l))]]) (fun _ _ => []) (fun l x h => by obtain ⟨h1, h2, D, M, b, h3⟩ := h; have := call83 _ D M b _ h3; rwa [h1, h2] at this)
end Go.Am.Bern

/- Bern: curves, with corners that are known. -/
namespace Go.Am.Bern
open Go Go.Am Go.Proofs
abbrev Memo := List ((Int × Int) × List (Int × Int))
noncomputable def Xm (l : EL) (m0 : Nat) (dr : Nat -> Option Nat) : Cy := mkX Tryd.prog tt gl l m0 dr
theorem Xm_ok (l : EL) (m0 : Nat) (dr : Nat -> Option Nat) : (Xm l m0 dr).Ok := mkX_ok tt_ok l m0 dr
def mget (m : Memo) (q : Int × Int) : Option (List (Int × Int)) := mGet FR m q
def mput (m : Memo) (q : Int × Int) (v : List (Int × Int)) : Memo := mPut FR m q v
def qc (p : List Int) (d k : Nat) : List (Int × Int) := qs (cnr p d k)
def cm (p : List Int) : Nat -> Nat -> Memo -> Memo
 | 0, k, m => match mget m (0, k) with
   | some _ => m
   | none => mput m (0, k) (qc p 0 k)
 | d + 1, k, m => match mget m ((d + 1 : Nat), k) with
   | some _ => m
   | none => mput (cm p d (k / 2) m) ((d + 1 : Nat), k) (qc p (d + 1) k)
def memoOk (p : List Int) (m : Memo) : Prop := ∀ d k : Nat, ∀ v, mget m ((d : Int), (k : Int)) = some v -> v = qc p d k
theorem mget_put (m : Memo) (q q' : Int × Int) (v : List (Int × Int)) : mget (mput m q v) q' = if q' = q then some v else mget m q' := by
 induction m with
 | nil =>
   simp only [mput, mPut, mget, mGet]
   split
   · rename_i h _; rw [if_pos h]
   · rename_i h _; rw [if_neg h]
 | cons e m ih =>
   simp only [mput, mPut, mget] at ih |-
   split
   · rename_i h _
     simp only [mGet]
     split
     · rename_i h2 _; rw [if_pos h2]
     · rename_i h2 _
       rw [if_neg h2]
       split
       · rename_i h3 _; exact absurd (h3.trans h.symm) h2
       · rfl
   · rename_i h _
     simp only [mGet]
     split
     · rename_i h2 _
       rw [if_neg (fun e' => h (e'.symm.trans h2))]
     · exact ih
theorem cm_ok {p : List Int} : ∀ {d k : Nat} {m : Memo}, memoOk p m -> memoOk p (cm p d k m)
 | 0, k, m, h => by
   unfold cm
   split
   · exact h
   · intro d' k' v hv
     rw [mget_put] at hv
     split at hv
     · rename_i e
       injection e with e1 e2
       have h1 : d' = 0 := by omega
       have h2 : k' = k := by omega
       subst h1 h2
       injection hv with hv; exact hv.symm
     · exact h d' k' v hv
 | d + 1, k, m, h => by
   unfold cm
   split
   · exact h
   · intro d' k' v hv
     rw [mget_put] at hv
     split at hv
     · rename_i e
       injection e with e1 e2
       have h1 : d' = d + 1 := by omega
       have h2 : k' = k := by omega
       subst h1 h2
       injection hv with hv; exact hv.symm
     · exact cm_ok h d' k' v hv
def castM (k v : Ty) (m : List (k.D × v.D)) : Option Memo := if h : k = FR /\ v = SF then some (cast (by rw [h.1, h.2]) m) else none
theorem castM_some {k v : Ty} {m : List (k.D × v.D)} {n : Memo} (h : castM k v m = some n) : (Ob.mo k v m) = .mo FR SF n := by
 unfold castM at h
 split at h <;> try (cases h; done)
 rename_i e
 obtain ⟨rfl, rfl⟩ := e
 injection h with h; subst h; try rfl
def cvO (p : List Int) : Ob := .bx (.agg [.sl I64 p, .mp 1])
def mmO (m : Memo) : Ob := .mo FR SF m
def unCv : Ob -> Option (List Int)
 | .bx (.agg [.sl e xs, .mp 1]) => castL e I64 xs
 | _ => none
theorem unCv_some {x : Ob} {p : List Int} (h : unCv x = some p) : x = cvO p := by
 unfold unCv at h
 split at h <;> try (cases h; done)
 obtain ⟨rfl, h⟩ := castL_some h
 subst h; try rfl
def unMm : Ob -> Option Memo
 | .mo k v m => castM k v m
 | _ => none
theorem unMm_some {x : Ob} {m : Memo} (h : unMm x = some m) : x = mmO m := by
 unfold unMm at h
 split at h <;> try (cases h; done)
 exact castM_some h
def unP0 : AV -> Bool
 | .ptr 0 0 [] => true
 | _ => false
theorem unP0_some {x : AV} (h : unP0 x = true) : x = .ptr 0 0 [] := by
 unfold unP0 at h
 split at h
 · rfl
 · cases h
/-- A function of a curve and a piece. -/
def entryC (f : FuncId) (en : Enters Tryd.prog f) (pre : List Int -> Memo -> Int × Int -> Prop) (res : List Int -> Memo -> Int × Int -> List AV) (mm : List Int -> Memo -> Int × Int -> Memo)
   (ok : ∀ p m q, pre p m q -> GCall Tryd.prog gl f false [.ptr 0 0 [], ofD FR q] [cvO p, mmO m] (res p m q) [cvO p, mmO (mm p m q)]) : Entry Tryd.prog gl where
 f := f
 lend := true
 en := en
 go := fun args ob0 => match args, ob0 with
   | [x, y], [c, m] => (match unP0 x, toD FR y, unCv c, unMm m with
     | true, some q, some p, some m => some (pre p m q, false, res p m q, [cvO p, mmO (mm p m q)])
     | _, _, _, _ => none)
   | _, _ => none
 ok := by
   intro args ob0 p s r o h hp
   split at h <;> try (cases h; done)
   rename_i x y c m
   split at h <;> try (cases h; done)
   rename_i q p' m' hx hy hc hm
   injection h with h; injection h with h1 h2; injection h2 with h2 h3; injection h3 with h3 h4
   subst h1 h2 h3 h4
   rw [unCv_some hc, unMm_some hm]
   have hx := unP0_some hx
   subst hx
   refine (ok p' m' q hp).args rfl fun i z hz => ?_
   match i with
   | 0 => simp at hz; subst hz; exact ⟨_, rfl, fun E I F w u hu => hu⟩
   | 1 => simp at hz; subst hz; exact ⟨y, rfl, fun E I F w u hu => TR.toD hy hu⟩
   | i + 2 => simp at hz
end Go.Am.Bern
