/- Part B3 of the proof that the law named in the last file returns true at every input and leaves its arguments as they were; no condition of its own. -/
import Derived.Test.YtjmfgoemdkfldaaDoorA2
import Derived.Test.YtjmfgoemdkfldaaDoorProg
import Derived.KernelRfl
set_option linter.unusedSimpArgs false
set_option linter.unusedVariables false
/- Bern: the program's types. Printed by tytab.py, beside the head. -/
namespace Go.Am.Bern
open Go Go.Am Go.Proofs
def AllOk (P : Program) : Nat -> List (Option TI) -> Prop
 | _, [] => True
 | i, none :: l => AllOk P (i + 1) l
 | i, some ti :: l => TI.Ok P i ti /\ AllOk P (i + 1) l
theorem AllOk.get {P : Program} : ∀ {l : List (Option TI)} {i j : Nat} {ti : TI}, AllOk P i l -> l[j]? = some (some ti) -> TI.Ok P (i + j) ti
 | [], i, j, ti, _, h => by simp at h
 | none :: l, i, 0, ti, _, h => by simp at h
 | some t :: l, i, 0, ti, h, hj => by simp at hj; subst hj; exact h.1
 | none :: l, i, j + 1, ti, h, hj => by
   have := AllOk.get (l := l) (i := i + 1) (j := j) h (by simpa using hj)
   rwa [show i + (j + 1) = i + 1 + j by omega]
 | some t :: l, i, j + 1, ti, h, hj => by
   have := AllOk.get (l := l) (i := i + 1) (j := j) h.2 (by simpa using hj)
   rwa [show i + (j + 1) = i + 1 + j by omega]
def ti1 : TI := ⟨.oth, 1, 8, Value.nilFunc, .vv .nilFunc, .bool, false, false⟩
theorem ti1_ok : TI.Ok Tryd.prog 1 ti1 := ⟨by kernel_rfl, by kernel_rfl, by kernel_rfl, by kernel_rfl, by kernel_rfl, by kernel_rfl, (fun h => nomatch h), (fun h => nomatch h)⟩
def ti2 : TI := ⟨.int .i64, 1, 8, Value.int IntKind.i64 0, .int .i64 0, .int .i64, true, true⟩
theorem ti2_ok : TI.Ok Tryd.prog 2 ti2 := ⟨by kernel_rfl, by kernel_rfl, by kernel_rfl, by kernel_rfl, by kernel_rfl, by kernel_rfl, fun _ => by kernel_rfl, fun _ => by kernel_rfl⟩
def ti3 : TI := ⟨.int .i64, 1, 8, Value.int IntKind.i64 0, .int .i64 0, .int .i64, true, true⟩
theorem ti3_ok : TI.Ok Tryd.prog 3 ti3 := ⟨by kernel_rfl, by kernel_rfl, by kernel_rfl, by kernel_rfl, by kernel_rfl, by kernel_rfl, fun _ => by kernel_rfl, fun _ => by kernel_rfl⟩
def ti4 : TI := ⟨.bool, 1, 1, Value.bool false, .ff, .bool, true, true⟩
theorem ti4_ok : TI.Ok Tryd.prog 4 ti4 := ⟨by kernel_rfl, by kernel_rfl, by kernel_rfl, by kernel_rfl, by kernel_rfl, by kernel_rfl, fun _ => by kernel_rfl, fun _ => by kernel_rfl⟩
def ti6 : TI := ⟨.int .u8, 1, 1, Value.int IntKind.u8 0, .int .u8 0, .int .u8, true, true⟩
theorem ti6_ok : TI.Ok Tryd.prog 6 ti6 := ⟨by kernel_rfl, by kernel_rfl, by kernel_rfl, by kernel_rfl, by kernel_rfl, by kernel_rfl, fun _ => by kernel_rfl, fun _ => by kernel_rfl⟩
def ti7 : TI := ⟨.st [(0, 2), (1, 3), (2, 4), (3, 6)], 4, 24, Value.agg #[Value.int IntKind.i64 0, Value.int IntKind.i64 0, Value.bool false, Value.int IntKind.u8 0], .agg [.int .i64 0, .int .i64 0, .ff, .int .u8 0], .s4 (.int .i64) (.int .i64) (.bool) (.int .u8), true, false⟩
theorem ti7_ok : TI.Ok Tryd.prog 7 ti7 := ⟨by kernel_rfl, by kernel_rfl, by kernel_rfl, by kernel_rfl, by kernel_rfl, by kernel_rfl, fun _ => by kernel_rfl, (fun h => nomatch h)⟩
def ti8 : TI := ⟨.st [(0, 2), (1, 3), (2, 4), (3, 6)], 4, 24, Value.agg #[Value.int IntKind.i64 0, Value.int IntKind.i64 0, Value.bool false, Value.int IntKind.u8 0], .agg [.int .i64 0, .int .i64 0, .ff, .int .u8 0], .s4 (.int .i64) (.int .i64) (.bool) (.int .u8), true, false⟩
theorem ti8_ok : TI.Ok Tryd.prog 8 ti8 := ⟨by kernel_rfl, by kernel_rfl, by kernel_rfl, by kernel_rfl, by kernel_rfl, by kernel_rfl, fun _ => by kernel_rfl, (fun h => nomatch h)⟩
def ti20 : TI := ⟨.oth, 1, 16, Value.nilIface, .vv .nilIface, .bool, false, false⟩
theorem ti20_ok : TI.Ok Tryd.prog 20 ti20 := ⟨by kernel_rfl, by kernel_rfl, by kernel_rfl, by kernel_rfl, by kernel_rfl, by kernel_rfl, (fun h => nomatch h), (fun h => nomatch h)⟩
def ti22 : TI := ⟨.sl 3, 1, 24, Value.slice none 0 0, .vv (.slice none 0 0), .sl (.int .i64), true, false⟩
theorem ti22_ok : TI.Ok Tryd.prog 22 ti22 := ⟨by kernel_rfl, by kernel_rfl, by kernel_rfl, by kernel_rfl, by kernel_rfl, by kernel_rfl, fun _ => by kernel_rfl, (fun h => nomatch h)⟩
def ti23 : TI := ⟨.ar 2 3, 2, 16, Value.agg #[Value.int IntKind.i64 0, Value.int IntKind.i64 0], ofD (.a2 (.int .i64)) (Ty.dflt (.a2 (.int .i64))), .a2 (.int .i64), true, true⟩
theorem ti23_ok : TI.Ok Tryd.prog 23 ti23 := ⟨by kernel_rfl, by kernel_rfl, by kernel_rfl, by kernel_rfl, by kernel_rfl, by kernel_rfl, fun _ => by kernel_rfl, fun _ => by kernel_rfl⟩
def ti25 : TI := ⟨.sl 48, 1, 24, Value.slice none 0 0, .vv (.slice none 0 0), .sl (.a2 (.int .i64)), true, false⟩
theorem ti25_ok : TI.Ok Tryd.prog 25 ti25 := ⟨by kernel_rfl, by kernel_rfl, by kernel_rfl, by kernel_rfl, by kernel_rfl, by kernel_rfl, fun _ => by kernel_rfl, (fun h => nomatch h)⟩
def ti26 : TI := ⟨.int .i64, 1, 8, Value.int IntKind.i64 0, .int .i64 0, .int .i64, true, true⟩
theorem ti26_ok : TI.Ok Tryd.prog 26 ti26 := ⟨by kernel_rfl, by kernel_rfl, by kernel_rfl, by kernel_rfl, by kernel_rfl, by kernel_rfl, fun _ => by kernel_rfl, fun _ => by kernel_rfl⟩
def ti37 : TI := ⟨.sl 23, 1, 24, Value.slice none 0 0, .vv (.slice none 0 0), .sl (.a2 (.int .i64)), true, false⟩
theorem ti37_ok : TI.Ok Tryd.prog 37 ti37 := ⟨by kernel_rfl, by kernel_rfl, by kernel_rfl, by kernel_rfl, by kernel_rfl, by kernel_rfl, fun _ => by kernel_rfl, (fun h => nomatch h)⟩
def ti48 : TI := ⟨.ar 2 2, 2, 16, Value.agg #[Value.int IntKind.i64 0, Value.int IntKind.i64 0], ofD (.a2 (.int .i64)) (Ty.dflt (.a2 (.int .i64))), .a2 (.int .i64), true, true⟩
theorem ti48_ok : TI.Ok Tryd.prog 48 ti48 := ⟨by kernel_rfl, by kernel_rfl, by kernel_rfl, by kernel_rfl, by kernel_rfl, by kernel_rfl, fun _ => by kernel_rfl, fun _ => by kernel_rfl⟩
def ti58 : TI := ⟨.ar 2 25, 2, 48, Value.agg #[Value.slice none 0 0, Value.slice none 0 0], ofD (.a2 (.sl (.a2 (.int .i64)))) (Ty.dflt (.a2 (.sl (.a2 (.int .i64))))), .a2 (.sl (.a2 (.int .i64))), true, false⟩
theorem ti58_ok : TI.Ok Tryd.prog 58 ti58 := ⟨by kernel_rfl, by kernel_rfl, by kernel_rfl, by kernel_rfl, by kernel_rfl, by kernel_rfl, fun _ => by kernel_rfl, (fun h => nomatch h)⟩
def ti64 : TI := ⟨.oth, 1, 8, Value.nilFunc, .vv .nilFunc, .bool, false, false⟩
theorem ti64_ok : TI.Ok Tryd.prog 64 ti64 := ⟨by kernel_rfl, by kernel_rfl, by kernel_rfl, by kernel_rfl, by kernel_rfl, by kernel_rfl, (fun h => nomatch h), (fun h => nomatch h)⟩
def ti79 : TI := ⟨.sl 25, 1, 24, Value.slice none 0 0, .vv (.slice none 0 0), .sl (.sl (.a2 (.int .i64))), true, false⟩
theorem ti79_ok : TI.Ok Tryd.prog 79 ti79 := ⟨by kernel_rfl, by kernel_rfl, by kernel_rfl, by kernel_rfl, by kernel_rfl, by kernel_rfl, fun _ => by kernel_rfl, (fun h => nomatch h)⟩
def ti85 : TI := ⟨.int .u64, 1, 8, Value.int IntKind.u64 0, .int .u64 0, .int .u64, true, true⟩
theorem ti85_ok : TI.Ok Tryd.prog 85 ti85 := ⟨by kernel_rfl, by kernel_rfl, by kernel_rfl, by kernel_rfl, by kernel_rfl, by kernel_rfl, fun _ => by kernel_rfl, fun _ => by kernel_rfl⟩
def ti87 : TI := ⟨.st [(0, 3), (1, 3)], 2, 16, Value.agg #[Value.int IntKind.i64 0, Value.int IntKind.i64 0], .agg [.int .i64 0, .int .i64 0], .s2 (.int .i64) (.int .i64), true, true⟩
theorem ti87_ok : TI.Ok Tryd.prog 87 ti87 := ⟨by kernel_rfl, by kernel_rfl, by kernel_rfl, by kernel_rfl, by kernel_rfl, by kernel_rfl, fun _ => by kernel_rfl, fun _ => by kernel_rfl⟩
def ti89 : TI := ⟨.sl 106, 1, 24, Value.slice none 0 0, .vv (.slice none 0 0), .sl (.s2 (.int .i64) (.int .i64)), true, false⟩
theorem ti89_ok : TI.Ok Tryd.prog 89 ti89 := ⟨by kernel_rfl, by kernel_rfl, by kernel_rfl, by kernel_rfl, by kernel_rfl, by kernel_rfl, fun _ => by kernel_rfl, (fun h => nomatch h)⟩
def ti92 : TI := ⟨.pt 127, 1, 8, Value.pointer none, .vv (.pointer none), .bool, false, false⟩
theorem ti92_ok : TI.Ok Tryd.prog 92 ti92 := ⟨by kernel_rfl, by kernel_rfl, by kernel_rfl, by kernel_rfl, by kernel_rfl, by kernel_rfl, (fun h => nomatch h), (fun h => nomatch h)⟩
def ti94 : TI := ⟨.sl 87, 1, 24, Value.slice none 0 0, .vv (.slice none 0 0), .sl (.s2 (.int .i64) (.int .i64)), true, false⟩
theorem ti94_ok : TI.Ok Tryd.prog 94 ti94 := ⟨by kernel_rfl, by kernel_rfl, by kernel_rfl, by kernel_rfl, by kernel_rfl, by kernel_rfl, fun _ => by kernel_rfl, (fun h => nomatch h)⟩
def ti97 : TI := ⟨.oth, 1, 8, Value.nilFunc, .vv .nilFunc, .bool, false, false⟩
theorem ti97_ok : TI.Ok Tryd.prog 97 ti97 := ⟨by kernel_rfl, by kernel_rfl, by kernel_rfl, by kernel_rfl, by kernel_rfl, by kernel_rfl, (fun h => nomatch h), (fun h => nomatch h)⟩
def ti101 : TI := ⟨.oth, 1, 8, Value.nilFunc, .vv .nilFunc, .bool, false, false⟩
theorem ti101_ok : TI.Ok Tryd.prog 101 ti101 := ⟨by kernel_rfl, by kernel_rfl, by kernel_rfl, by kernel_rfl, by kernel_rfl, by kernel_rfl, (fun h => nomatch h), (fun h => nomatch h)⟩
def ti106 : TI := ⟨.st [(0, 2), (1, 2)], 2, 16, Value.agg #[Value.int IntKind.i64 0, Value.int IntKind.i64 0], .agg [.int .i64 0, .int .i64 0], .s2 (.int .i64) (.int .i64), true, true⟩
theorem ti106_ok : TI.Ok Tryd.prog 106 ti106 := ⟨by kernel_rfl, by kernel_rfl, by kernel_rfl, by kernel_rfl, by kernel_rfl, by kernel_rfl, fun _ => by kernel_rfl, fun _ => by kernel_rfl⟩
def ti111 : TI := ⟨.ar 7 3, 7, 56, Value.agg #[Value.int IntKind.i64 0, Value.int IntKind.i64 0, Value.int IntKind.i64 0, Value.int IntKind.i64 0, Value.int IntKind.i64 0, Value.int IntKind.i64 0, Value.int IntKind.i64 0], ofD (.ar 7 (.int .i64)) (Ty.dflt (.ar 7 (.int .i64))), .ar 7 (.int .i64), true, false⟩
theorem ti111_ok : TI.Ok Tryd.prog 111 ti111 := ⟨by kernel_rfl, by kernel_rfl, by kernel_rfl, by kernel_rfl, by kernel_rfl, by kernel_rfl, fun _ => by kernel_rfl, (fun h => nomatch h)⟩
def ti117 : TI := ⟨.ar 2 89, 2, 48, Value.agg #[Value.slice none 0 0, Value.slice none 0 0], ofD (.a2 (.sl (.s2 (.int .i64) (.int .i64)))) (Ty.dflt (.a2 (.sl (.s2 (.int .i64) (.int .i64))))), .a2 (.sl (.s2 (.int .i64) (.int .i64))), true, false⟩
theorem ti117_ok : TI.Ok Tryd.prog 117 ti117 := ⟨by kernel_rfl, by kernel_rfl, by kernel_rfl, by kernel_rfl, by kernel_rfl, by kernel_rfl, fun _ => by kernel_rfl, (fun h => nomatch h)⟩
def ti121 : TI := ⟨.ar 6 2, 6, 48, Value.agg #[Value.int IntKind.i64 0, Value.int IntKind.i64 0, Value.int IntKind.i64 0, Value.int IntKind.i64 0, Value.int IntKind.i64 0, Value.int IntKind.i64 0], ofD (.ar 6 (.int .i64)) (Ty.dflt (.ar 6 (.int .i64))), .ar 6 (.int .i64), true, false⟩
theorem ti121_ok : TI.Ok Tryd.prog 121 ti121 := ⟨by kernel_rfl, by kernel_rfl, by kernel_rfl, by kernel_rfl, by kernel_rfl, by kernel_rfl, fun _ => by kernel_rfl, (fun h => nomatch h)⟩
def ti122 : TI := ⟨.int .u64, 1, 8, Value.int IntKind.u64 0, .int .u64 0, .int .u64, true, true⟩
theorem ti122_ok : TI.Ok Tryd.prog 122 ti122 := ⟨by kernel_rfl, by kernel_rfl, by kernel_rfl, by kernel_rfl, by kernel_rfl, by kernel_rfl, fun _ => by kernel_rfl, fun _ => by kernel_rfl⟩
def ti125 : TI := ⟨.mp 87 89, 1, 8, Value.map none, .vv (.map none), .bool, false, false⟩
theorem ti125_ok : TI.Ok Tryd.prog 125 ti125 := ⟨by kernel_rfl, by kernel_rfl, by kernel_rfl, by kernel_rfl, by kernel_rfl, by kernel_rfl, (fun h => nomatch h), (fun h => nomatch h)⟩
def ti127 : TI := ⟨.st [(0, 22), (1, 125)], 2, 32, Value.agg #[Value.slice none 0 0, Value.map none], .agg [.vv (.slice none 0 0), .vv (.map none)], .bool, false, false⟩
theorem ti127_ok : TI.Ok Tryd.prog 127 ti127 := ⟨by kernel_rfl, by kernel_rfl, by kernel_rfl, by kernel_rfl, by kernel_rfl, by kernel_rfl, (fun h => nomatch h), (fun h => nomatch h)⟩
def ti128 : TI := ⟨.oth, 1, 8, Value.nilFunc, .vv .nilFunc, .bool, false, false⟩
theorem ti128_ok : TI.Ok Tryd.prog 128 ti128 := ⟨by kernel_rfl, by kernel_rfl, by kernel_rfl, by kernel_rfl, by kernel_rfl, by kernel_rfl, (fun h => nomatch h), (fun h => nomatch h)⟩
def ti129 : TI := ⟨.oth, 1, 8, Value.nilFunc, .vv .nilFunc, .bool, false, false⟩
theorem ti129_ok : TI.Ok Tryd.prog 129 ti129 := ⟨by kernel_rfl, by kernel_rfl, by kernel_rfl, by kernel_rfl, by kernel_rfl, by kernel_rfl, (fun h => nomatch h), (fun h => nomatch h)⟩
def ti133 : TI := ⟨.oth, 1, 8, Value.nilFunc, .vv .nilFunc, .bool, false, false⟩
theorem ti133_ok : TI.Ok Tryd.prog 133 ti133 := ⟨by kernel_rfl, by kernel_rfl, by kernel_rfl, by kernel_rfl, by kernel_rfl, by kernel_rfl, (fun h => nomatch h), (fun h => nomatch h)⟩
def ti135 : TI := ⟨.ar 7 106, 14, 112, Value.agg #[Value.int IntKind.i64 0, Value.int IntKind.i64 0, Value.int IntKind.i64 0, Value.int IntKind.i64 0, Value.int IntKind.i64 0, Value.int IntKind.i64 0, Value.int IntKind.i64 0, Value.int IntKind.i64 0, Value.int IntKind.i64 0, Value.int IntKind.i64 0, Value.int IntKind.i64 0, Value.int IntKind.i64 0, Value.int IntKind.i64 0, Value.int IntKind.i64 0], ofD (.ar 7 (.s2 (.int .i64) (.int .i64))) (Ty.dflt (.ar 7 (.s2 (.int .i64) (.int .i64)))), .ar 7 (.s2 (.int .i64) (.int .i64)), true, false⟩
theorem ti135_ok : TI.Ok Tryd.prog 135 ti135 := ⟨by kernel_rfl, by kernel_rfl, by kernel_rfl, by kernel_rfl, by kernel_rfl, by kernel_rfl, fun _ => by kernel_rfl, (fun h => nomatch h)⟩
def ti136 : TI := ⟨.oth, 1, 8, Value.nilFunc, .vv .nilFunc, .bool, false, false⟩
theorem ti136_ok : TI.Ok Tryd.prog 136 ti136 := ⟨by kernel_rfl, by kernel_rfl, by kernel_rfl, by kernel_rfl, by kernel_rfl, by kernel_rfl, (fun h => nomatch h), (fun h => nomatch h)⟩
def ti138 : TI := ⟨.sl 2, 1, 24, Value.slice none 0 0, .vv (.slice none 0 0), .sl (.int .i64), true, false⟩
theorem ti138_ok : TI.Ok Tryd.prog 138 ti138 := ⟨by kernel_rfl, by kernel_rfl, by kernel_rfl, by kernel_rfl, by kernel_rfl, by kernel_rfl, fun _ => by kernel_rfl, (fun h => nomatch h)⟩
def ttL : List (Option TI) := [none, some ti1, some ti2, some ti3, some ti4, none, some ti6, some ti7, some ti8, none, none, none, none, none, none, none, none, none, none, none, some ti20, none, some ti22, some ti23, none, some ti25, some ti26, none, none, none, none, none, none, none, none, none, none, some ti37, none, none, none, none, none, none, none, none, none, none, some ti48, none, none, none, none, none, none, none, none, none, some ti58, none, none, none, none, none, some ti64, none, none, none, none, none, none, none, none, none, none, none, none, none, none, some ti79, none, none, none, none, none, some ti85, none, some ti87, none, some ti89, none, none, some ti92, none, some ti94, none, none, some ti97, none, none, none, some ti101, none, none, none, none, some ti106, none, none, none, none, some ti111, none, none, none, none, none, some ti117, none, none, none, some ti121, some ti122, none, none, some ti125, none, some ti127, some ti128, some ti129, none, none, none, some ti133, none, some ti135, some ti136, none, some ti138, none, none, none, none, none, none, none, none, none, none, none, none, none, none, none, none, none]
theorem ttL_ok : AllOk Tryd.prog 0 ttL := ⟨ti1_ok, ti2_ok, ti3_ok, ti4_ok, ti6_ok, ti7_ok, ti8_ok, ti20_ok, ti22_ok, ti23_ok, ti25_ok, ti26_ok, ti37_ok, ti48_ok, ti58_ok, ti64_ok, ti79_ok, ti85_ok, ti87_ok, ti89_ok, ti92_ok, ti94_ok, ti97_ok, ti101_ok, ti106_ok, ti111_ok, ti117_ok, ti121_ok, ti122_ok, ti125_ok, ti127_ok, ti128_ok, ti129_ok, ti133_ok, ti135_ok, ti136_ok, ti138_ok, trivial⟩
def getTI : List (Option TI) -> Nat -> Option TI
 | [], _ => none
 | a :: _, 0 => a
 | _ :: l, n + 1 => getTI l n
theorem getTI_some : ∀ {l : List (Option TI)} {n : Nat} {ti : TI}, getTI l n = some ti -> l[n]? = some (some ti)
 | [], _, _, h => by simp [getTI] at h
 | a :: _, 0, ti, h => by simp [getTI] at h; simp [h]
 | _ :: l, n + 1, ti, h => by simpa using getTI_some (l := l) h
def tt (T : TypeId) : Option TI := getTI ttL T
theorem tt_ok (T : TypeId) (ti : TI) (h : tt T = some ti) : TI.Ok Tryd.prog T ti := by
 have := ttL_ok.get (getTI_some h)
 rwa [Nat.zero_add] at this
end Go.Am.Bern

/- Bern, plain: fractions as pairs of integers in lowest terms. -/
namespace Go.Am.Bern
open Rat (divInt)
def small (a : Int) : Prop := a.natAbs < 9223372036854775808
def qp (r : Rat) : Int × Int := (r.num, (r.den : Int))
def rat (x : Int × Int) : Rat := Rat.divInt x.1 x.2
@[simp] theorem qp_fst (r : Rat) : (qp r).fst = r.num := rfl
@[simp] theorem qp_snd (r : Rat) : (qp r).snd = (r.den : Int) := rfl
@[simp] theorem rat_qp (r : Rat) : rat (qp r) = r := Rat.num_divInt_den r
@[simp] theorem rat_num_den (r : Rat) : rat (r.num, (r.den : Int)) = r := Rat.num_divInt_den r
def good (x : Int × Int) : Prop := qp (rat x) = x
theorem good_qp (r : Rat) : good (qp r) := by simp [good]
theorem rat_int (a : Int) : rat (a, 1) = (a : Rat) := by
 have := Rat.num_divInt_den (a : Rat)
 simpa [rat] using this
theorem good_nd (r : Rat) : good (r.num, (r.den : Int)) := by unfold good; rw [rat_num_den]; try rfl
/-- What the propositions of a run are cleared by. -/
theorem zz : (∀ p : Prop, (True /\ p) = p) /\ (∀ p : Prop, (p /\ True) = p) /\ (∀ p : Prop, (False /\ p) = False) /\ (∀ p : Prop, (p /\ False) = False) /\ (∀ p : Prop, (p ∨ False) = p) /\ (∀ p : Prop, (False ∨ p) = p)
   /\ (∀ (b : Prop) (α : Type) [Nonempty α], (∃ _ : α, b) ↔ b) /\ (∀ α : Type, ¬ ∃ _ : α, False) /\ (∀ r : Rat, rat (r.num, (r.den : Int)) = r) /\ (∀ a : Int, rat (a, 1) = (a : Rat)) /\ ∀ n : Nat, (n : Int).toNat = n :=
 ⟨true_and, and_true, false_and, and_false, or_false, false_or, fun _ α _ => exists_const α, fun _ h => h.elim fun _ h => h, rat_num_den, rat_int, Int.toNat_natCast⟩
theorem good_int (a : Int) : good (a, 1) := by unfold good; rw [rat_int]; try rfl
def gcdR (a b : Int) : Int := max (Int.gcd a b : Int) 1
def fracR (a b : Int) : Int × Int := (a.tdiv (gcdR a b), b.tdiv (gcdR a b))
theorem gcdR_pos (a b : Int) : 0 < gcdR a b := by unfold gcdR; omega
theorem gcdR_eq {a b : Int} (h : a ≠ 0 ∨ b ≠ 0) : gcdR a b = (Int.gcd a b : Int) := by
 have : 0 < Int.gcd a b := Int.gcd_pos_iff.mpr h
 unfold gcdR; omega
theorem fracR_eq {a b : Int} (hb : 0 < b) : fracR a b = qp (Rat.divInt a b) := by
 have hg : gcdR a b = (Int.gcd a b : Int) := gcdR_eq (.inr (by omega))
 have h0 : 0 < Int.gcd a b := Int.gcd_pos_iff.mpr (.inr (by omega))
 unfold fracR qp
 rw [hg, Rat.num_divInt, Rat.den_divInt, if_neg (by omega), Int.sign_eq_one_of_pos hb, Int.one_mul, Int.gcd_comm b a]
 refine Prod.ext ?_ ?_
 · simp only
   exact Int.tdiv_eq_ediv_of_dvd (Int.gcd_dvd_left ..)
 · simp only
   rw [Int.tdiv_eq_ediv_of_dvd (Int.gcd_dvd_right ..), Int.natCast_ediv]
   congr 1; omega
theorem gcd_step (a b : Int) : Nat.gcd b.natAbs (a.tmod b).natAbs = Nat.gcd a.natAbs b.natAbs := by
 rw [Int.natAbs_tmod, Nat.gcd_comm b.natAbs, Nat.gcd_comm a.natAbs, <- Nat.gcd_rec]
theorem tmod_small {a b : Int} (h : small b) : small (a.tmod b) ∨ b = 0 := by
 unfold small at *
 rw [Int.natAbs_tmod]
 by_cases h0 : b = 0
 · exact .inr h0
 · exact .inl (Nat.lt_trans (Nat.mod_lt _ (by omega)) h)
theorem tmod_lt {a b : Int} (h : b ≠ 0) : (a.tmod b).natAbs < b.natAbs := by
 rw [Int.natAbs_tmod]; exact Nat.mod_lt _ (by omega)
/-- A fraction of denominator D, with a numerator of at most M. -/
def fr (D M : Int) (r : Rat) : Prop := ∃ m : Int, r = Rat.divInt m D /\ -M <= m /\ m <= M
theorem natAbs_ediv_le (m : Int) (g : Int) : (m / g).natAbs <= m.natAbs ∨ g <= 0 := by
 by_cases hg : 0 < g
 · left
   rcases Int.le_total 0 m with h | h
   · have := Int.ediv_nonneg h (Int.le_of_lt hg)
     have := Int.ediv_le_self g h
     omega
   · have h1 : m <= m / g := by
       rw [Int.le_ediv_iff_mul_le hg]
       have := Int.mul_le_mul_of_nonpos_left h (show (1 : Int) <= g by omega)
       omega
     have h2 : m / g <= 0 := Int.ediv_nonpos_of_nonpos_of_neg h (by omega)
     omega
 · right; omega
theorem fr.spec {D M : Int} {r : Rat} (h : fr D M r) (hD : 0 < D) : (r.den : Int) ∣ D /\ -M <= r.num * (D / r.den) /\ r.num * (D / r.den) <= M /\ r.num.natAbs <= M /\ (r.den : Int) <= D := by
 obtain ⟨m, rfl, h1, h2⟩ := h
 have h0 : 0 < Int.gcd D m := Int.gcd_pos_iff.mpr (.inl (by omega))
 have e1 : ((Rat.divInt m D).den : Int) = D / (Int.gcd D m : Int) := by
   rw [Rat.den_divInt, if_neg (by omega), Int.natCast_ediv]; congr 1; omega
 have e2 : (Rat.divInt m D).num = m / (Int.gcd D m : Int) := by
   rw [Rat.num_divInt, Int.sign_eq_one_of_pos hD, Int.one_mul]
 have d1 : (Int.gcd D m : Int) ∣ D := Int.gcd_dvd_left ..
 have d2 : (Int.gcd D m : Int) ∣ m := Int.gcd_dvd_right ..
 rw [e1, e2]
 obtain ⟨k, hk⟩ := d1
 obtain ⟨l, hl⟩ := d2
 generalize hG : (Int.gcd D m : Int) = G at *
 have hG0 : 0 < G := by omega
 have q1 : D / G = k := by rw [hk]; exact Int.mul_ediv_cancel_left _ (by omega)
 have q2 : m / G = l := by rw [hl]; exact Int.mul_ediv_cancel_left _ (by omega)
 rw [q1, q2]
 have hk0 : 0 < k := by
   rcases Int.lt_trichotomy k 0 with h | h | h
   · have := Int.mul_neg_of_pos_of_neg hG0 h; omega
   · subst h; simp at hk; omega
   · exact h
 have q3 : D / k = G := by rw [hk]; exact Int.mul_ediv_cancel _ (by omega)
 rw [q3, Int.mul_comm l G, <- hl]
 refine ⟨⟨G, by rw [hk, Int.mul_comm]⟩, h1, h2, ?_, ?_⟩
 · have := natAbs_ediv_le m G
   rw [q2] at this
   omega
 · have := Int.mul_le_mul_of_nonneg_right (show 1 <= G by omega) (Int.le_of_lt hk0)
   rw [Int.one_mul, <- hk] at this; exact this
theorem fr.add {D M N : Int} {r s : Rat} (hr : fr D M r) (hs : fr D N s) (hD : 0 < D) : fr D (M + N) (r + s) := by
 obtain ⟨m, rfl, h1, h2⟩ := hr
 obtain ⟨n, rfl, h3, h4⟩ := hs
 refine ⟨m + n, ?_, by omega, by omega⟩
 rw [Rat.divInt_add_divInt _ _ (by omega) (by omega), <- Int.add_mul, Rat.divInt_mul_right (by omega)]
theorem fr.neg {D M : Int} {r : Rat} (hr : fr D M r) : fr D M (-r) := by
 obtain ⟨m, rfl, h1, h2⟩ := hr
 exact ⟨-m, by rw [Rat.neg_divInt], by omega, by omega⟩
theorem fr.mul {D D' M : Int} {r : Rat} {n : Int} (N : Int) (hr : fr D M r) (hn : -N <= n /\ n <= N) : fr (D * D') (M * N) (r * Rat.divInt n D') := by
 obtain ⟨m, rfl, h1, h2⟩ := hr
 refine ⟨m * n, Rat.divInt_mul_divInt .., ?_⟩
 have : (m * n).natAbs <= M.natAbs * N.natAbs := by rw [Int.natAbs_mul]; exact Nat.mul_le_mul (by omega) (by omega)
 have e : ((M.natAbs * N.natAbs : Nat) : Int) = M * N := by rw [Int.natCast_mul]; congr 1 <;> omega
 omega
theorem fr.mono {D M M' : Int} {r : Rat} (hr : fr D M r) (h : M <= M') : fr D M' r := by
 obtain ⟨m, rfl, h1, h2⟩ := hr
 exact ⟨m, rfl, by omega, by omega⟩
theorem fr.scale {D M k : Int} {r : Rat} (hr : fr D M r) (hk : 0 < k) : fr (D * k) (M * k) r := by
 obtain ⟨m, rfl, h1, h2⟩ := hr
 refine ⟨m * k, (Rat.divInt_mul_right (by omega)).symm, ?_, Int.mul_le_mul_of_nonneg_right h2 (by omega)⟩
 rw [<- Int.neg_mul]; exact Int.mul_le_mul_of_nonneg_right h1 (by omega)
theorem fr.int {M a : Int} (h : -M <= a /\ a <= M) : fr 1 M (Rat.divInt a 1) := ⟨a, rfl, h.1, h.2⟩
theorem fr.cast {M a : Int} (h : -M <= a /\ a <= M) : fr 1 M (a : Rat) := ⟨a, by rw [<- rat_int]; rfl, h.1, h.2⟩
/-- What a sum needs. -/
def addOk (r s : Rat) : Prop := ∃ D M N : Int, 0 < D /\ D < 9223372036854775808 /\ fr D M r /\ fr D N s /\ M + N < 9223372036854775808
def sq (r : Rat) : Prop := small r.num /\ small (r.den : Int)
def mulOk (r s : Rat) : Prop := sq r /\ sq s /\ ∃ D M : Int, 0 < D /\ D < 9223372036854775808 /\ M < 9223372036854775808 /\ fr D M (r * s)
theorem fr.sq {D M : Int} {r : Rat} (h : fr D M r) (hD : 0 < D) (hD2 : D < 9223372036854775808) (hM : M < 9223372036854775808) : sq r := by
 have := h.spec hD
 exact ⟨by unfold small; omega, by unfold small; omega⟩
theorem lcm_facts (r s : Rat) : ∃ g p q : Int, gcdR r.den s.den = g /\ 0 < g /\ (r.den : Int) = g * p /\ (s.den : Int) = g * q /\ 0 < p /\ 0 < q /\ ∀ D : Int, (r.den : Int) ∣ D -> (s.den : Int) ∣ D -> g * p * q ∣ D := by
 have hr := r.den_pos
 have hs := s.den_pos
 have hg : gcdR r.den s.den = (Int.gcd r.den s.den : Int) := gcdR_eq (.inl (by omega))
 have h0 : 0 < Int.gcd r.den s.den := Int.gcd_pos_iff.mpr (.inl (by omega))
 refine ⟨_, (r.den : Int) / (Int.gcd r.den s.den : Int), (s.den : Int) / (Int.gcd r.den s.den : Int), hg, by omega, ?_, ?_, ?_, ?_, ?_⟩
 · exact (Int.mul_ediv_cancel' (Int.gcd_dvd_left ..)).symm
 · exact (Int.mul_ediv_cancel' (Int.gcd_dvd_right ..)).symm
 · exact Int.ediv_pos_of_pos_of_dvd (by omega) (by omega) (Int.gcd_dvd_left ..)
 · exact Int.ediv_pos_of_pos_of_dvd (by omega) (by omega) (Int.gcd_dvd_right ..)
 · intro D h1 h2
   rw [Int.mul_ediv_cancel' (Int.gcd_dvd_left ..)]
   have h3 : ((Nat.lcm r.den s.den : Nat) : Int) ∣ D := by
     rw [Int.ofNat_dvd_left] at h1 h2
     rw [Int.ofNat_dvd_left]
     exact Nat.lcm_dvd h1 h2
   have : (r.den : Int) * ((s.den : Int) / (Int.gcd r.den s.den : Int)) = ((Nat.lcm r.den s.den : Nat) : Int) := by
     simp only [Int.gcd_natCast_natCast, Nat.lcm]
     rw [<- Int.natCast_ediv, <- Int.natCast_mul, Nat.mul_div_assoc _ (Nat.gcd_dvd_right ..)]
   rw [this]; exact h3
theorem add_facts {r s : Rat} (h : addOk r s) : ∃ g p q : Int, gcdR r.den s.den = g /\ 0 < g /\ (r.den : Int).tdiv g = p /\ (s.den : Int).tdiv g = q /\ 0 < p /\ 0 < q /\
   small (r.num * q) /\ small (s.num * p) /\ small (r.num * q + s.num * p) /\ small (p * s.den) /\ 0 < p * s.den /\ small p /\ small q /\ small r.den /\ small s.den /\ small r.num /\ small s.num /\ small (r.den * q) /\ 0 < r.den * q /\
   Rat.divInt (r.num * q + s.num * p) (p * s.den) = r + s /\ Rat.divInt (r.num * q + s.num * p) (r.den * q) = r + s := by
 obtain ⟨D, M, N, hD, hD2, hr, hs, hMN⟩ := h
 obtain ⟨a1, a2, a3, a4, a5⟩ := hr.spec hD
 obtain ⟨b1, b2, b3, b4, b5⟩ := hs.spec hD
 obtain ⟨g, p, q, e0, hg, ep, eq, hp, hq, hL⟩ := lcm_facts r s
 obtain ⟨k, hk⟩ := hL D a1 b1
 have hgp : 0 < g * p := Int.mul_pos hg hp
 have hgpq : 0 < g * p * q := Int.mul_pos hgp hq
 have hk0 : 0 < k := by
   rcases Int.lt_trichotomy k 0 with h | h | h
   · have := Int.mul_neg_of_pos_of_neg hgpq h; omega
   · subst h; simp at hk; omega
   · exact h
 have c1 : D / (r.den : Int) = q * k := by
   rw [ep, hk, Int.mul_assoc]; exact Int.mul_ediv_cancel_left _ (by omega)
 have c2 : D / (s.den : Int) = p * k := by
   rw [eq, hk, show g * p * q * k = g * q * (p * k) by rw [Int.mul_assoc g p q, Int.mul_comm p q, <- Int.mul_assoc g q p, Int.mul_assoc (g*q)]]
   exact Int.mul_ediv_cancel_left _ (by have := Int.mul_pos hg hq; omega)
 rw [c1] at a2 a3
 rw [c2] at b2 b3
 have le1 : ∀ x : Int, (x).natAbs <= (x * k).natAbs := fun x => by
   rw [Int.natAbs_mul]; exact Nat.le_mul_of_pos_right _ (by omega)
 have l1 := le1 (r.num * q)
 have l2 := le1 (s.num * p)
 have l3 := le1 (r.num * q + s.num * p)
 have l4 := le1 (g * p * q)
 rw [<- hk] at l4
 rw [Int.add_mul] at l3
 rw [Int.mul_assoc] at l1 l2
 rw [Int.mul_assoc, Int.mul_assoc] at l3
 have hpq : p * (s.den : Int) = g * p * q := by rw [eq, <- Int.mul_assoc, Int.mul_comm p g]
 have hpq2 : (r.den : Int) * q = g * p * q := by rw [ep]
 have sp : p <= g * p := by have := Int.mul_le_mul_of_nonneg_right (show 1 <= g by omega) (Int.le_of_lt hp); omega
 have sq : q <= g * q := by have := Int.mul_le_mul_of_nonneg_right (show 1 <= g by omega) (Int.le_of_lt hq); omega
 have hsum : Rat.divInt (r.num * q + s.num * p) (p * s.den) = r + s := by
   conv => rhs; rw [<- Rat.num_divInt_den r, <- Rat.num_divInt_den s]
   rw [Rat.divInt_add_divInt _ _ (by omega) (by omega), hpq, ep, eq]
   rw [show r.num * (g * q) + s.num * (g * p) = g * (r.num * q + s.num * p) by rw [Int.mul_add]; congr 1 <;> (rw [<- Int.mul_assoc, <- Int.mul_assoc]; congr 1; exact Int.mul_comm ..),
     show g * p * (g * q) = g * (g * p * q) by rw [Int.mul_assoc g p q, Int.mul_assoc g p (g * q)]; congr 1; rw [<- Int.mul_assoc, Int.mul_comm p g, Int.mul_assoc], Rat.divInt_mul_left (by omega)]
 refine ⟨g, p, q, e0, hg, ?_, ?_, hp, hq, ?_, ?_, ?_, ?_, ?_, ?_, ?_, ?_, ?_, ?_, ?_, ?_, ?_, hsum, ?_⟩
 · rw [ep]; exact Int.mul_tdiv_cancel_left _ (by omega)
 · rw [eq]; exact Int.mul_tdiv_cancel_left _ (by omega)
 all_goals (try unfold small)
 · omega
 · omega
 · omega
 · rw [hpq]; omega
 · rw [hpq]; omega
 · omega
 · omega
 · omega
 · omega
 · omega
 · omega
 · rw [hpq2]; omega
 · rw [hpq2]; omega
 · rw [hpq2, <- hpq]; exact hsum
theorem mul_facts {r s : Rat} (h : ∃ D M : Int, 0 < D /\ D < 9223372036854775808 /\ M < 9223372036854775808 /\ fr D M (r * s)) : ∃ g h : Int, gcdR r.num s.den = g /\ gcdR s.num r.den = h /\ 0 < g /\ 0 < h /\
   (r.num.tdiv g) * (s.num.tdiv h) = (r * s).num /\ ((r.den : Int).tdiv h) * ((s.den : Int).tdiv g) = ((r * s).den : Int) /\ small (r * s).num /\ small (r * s).den := by
 obtain ⟨D, M, hD, hD2, hM, hm⟩ := h
 obtain ⟨a1, a2, a3, a4, a5⟩ := hm.spec hD
 have hr := r.den_pos
 have hs := s.den_pos
 have e1 : gcdR r.num s.den = ((Nat.gcd r.num.natAbs s.den : Nat) : Int) := by rw [gcdR_eq (.inr (by omega))]; try rfl
 have e2 : gcdR s.num r.den = ((Nat.gcd s.num.natAbs r.den : Nat) : Int) := by rw [gcdR_eq (.inr (by omega))]; try rfl
 refine ⟨_, _, e1, e2, by rw [<- e1]; exact gcdR_pos .., by rw [<- e2]; exact gcdR_pos .., ?_, ?_, ?_, ?_⟩
 · conv => rhs; rw [show r * s = Rat.mul r s from rfl]; unfold Rat.mul
   simp only [Int.divExact_eq_tdiv]
 · conv => rhs; rw [show r * s = Rat.mul r s from rfl]; unfold Rat.mul
   simp only [Int.natCast_mul, Nat.divExact_eq_div, Int.natCast_ediv]
   rw [Int.tdiv_eq_ediv_of_nonneg (by omega), Int.tdiv_eq_ediv_of_nonneg (by omega)]
 · unfold small; omega
 · unfold small; omega
end Go.Am.Bern

/- Bern, plain: lists. -/
namespace Go.Am.Bern
theorem getD_lt {α : Type} {l : List α} {n : Nat} {d : α} (h : n < l.length) : l.getD n d = l[n] := by simp [List.getD_eq_getElem?_getD, h]
theorem mem_getD {α : Type} {l : List α} {n : Nat} {d : α} (h : n < l.length) : l.getD n d ∈ l := by rw [getD_lt h]; exact List.getElem_mem h
theorem take_getD {α : Type} {l : List α} {n : Nat} {d : α} (h : n < l.length) : l.take (n + 1) = l.take n ++ [l.getD n d] := by
 rw [getD_lt h]; exact (List.take_append_getElem h).symm
theorem all_take {α : Type} {P : α -> Prop} {l : List α} {n : Nat} {d : α} (h : n < l.length) : (∀ x ∈ l.take (n + 1), P x) ↔ (∀ x ∈ l.take n, P x) /\ P (l.getD n d) := by
 rw [take_getD (d := d) h]
 simp only [List.mem_append, List.mem_singleton]
 constructor
 · intro H; exact ⟨fun x hx => H x (.inl hx), H _ (.inr rfl)⟩
 · intro H x hx
   rcases hx with hx | hx
   · exact H.1 x hx
   · rw [hx]; exact H.2
theorem getD_map {α β : Type} {f : α -> β} {l : List α} {n : Nat} {d : β} {e : α} (h : n < l.length) : (l.map f).getD n d = f (l.getD n e) := by
 rw [getD_lt h, getD_lt (by simpa using h)]; simp
theorem getD_append_left {α : Type} {l m : List α} {n : Nat} {d : α} (h : n < l.length) : (l ++ m).getD n d = l.getD n d := by
 rw [getD_lt h, getD_lt (by simp; omega), List.getElem_append_left h]
theorem drop_getD {α : Type} {l : List α} {n : Nat} {d : α} (h : n < l.length) : l.drop n = l.getD n d :: l.drop (n + 1) := by
 rw [getD_lt h]; exact List.drop_eq_getElem_cons h
theorem ext_getD {α : Type} {l m : List α} {d : α} (hl : l.length = m.length) (h : ∀ n, n < l.length -> l.getD n d = m.getD n d) : l = m := by
 refine List.ext_getElem hl fun n h1 h2 => ?_
 have := h n h1
 rwa [getD_lt h1, getD_lt h2] at this
/-- Folds from the first element on. -/
def fold1 (f : Int -> Int -> Int) (l : List Int) : Int := l.tail.foldl f (l.getD 0 0)
theorem fold1_take {f : Int -> Int -> Int} {l : List Int} {k : Nat} (h1 : 1 <= k) (h : k < l.length) : fold1 f (l.take (k + 1)) = f (fold1 f (l.take k)) (l.getD k 0) := by
 rw [take_getD (d := 0) h]
 cases hl : l.take k with
 | nil =>
   have : (l.take k).length = 0 := by rw [hl]; try rfl
   rw [List.length_take] at this; omega
 | cons a m => simp [fold1, List.foldl_append]
theorem fold1_one {f : Int -> Int -> Int} {l : List Int} (h : 1 <= l.length) : fold1 f (l.take 1) = l.getD 0 0 := by
 cases l with
 | nil => simp at h
 | cons a m => simp [fold1]
end Go.Am.Bern

/- Bern: what all functions share; the reference's fractions. -/
namespace Go.Am.Bern
open Go Go.Am Go.Proofs
def gl : Nat -> Option ((t : Ty) × t.D) := fun g => match g with
 | 0 => some ⟨.s2 (.int .i64) (.int .i64), ((0 : Int), (0 : Int))⟩
 | _ => none
abbrev EL := List (Entry Tryd.prog gl)
noncomputable def X (l : EL) : Cy := mkX Tryd.prog tt gl l 0 (fun _ => none)
theorem X_ok (l : EL) : (X l).Ok := mkX_ok tt_ok l 0 _
noncomputable def Xd (l : EL) (dr : Nat -> Option Nat) : Cy := mkX Tryd.prog tt gl l 0 dr
theorem Xd_ok (l : EL) (dr : Nat -> Option Nat) : (Xd l dr).Ok := mkX_ok tt_ok l 0 dr
def drOf (l : List (Nat × Nat)) (i : Nat) : Option Nat := match l with
 | [] => none
 | p :: l => if Nat.beq p.1 i then some p.2 else drOf l i
/-- The loop under a block. -/
noncomputable def lp (c : Code) (id : Nat) : Code := go c
where go : Code -> Code
 | .seq a b => match go a with
   | .skip => go b
   | c => c
 | .block i (.loop b) => if i = id then b else go b
 | .block _ b => go b
 | .cond _ a b => match go a with
   | .skip => go b
   | c => c
 | _ => .skip
def bodyOf (f : Func) : Code := f.body.getD .skip
theorem of_eq {p q : Prop} (h : p = q) (hq : q) : p := h ▸ hq
def dd (n : Nat) : List AV := List.replicate n .dead
theorem dff {p : Prop} [Decidable p] (h : ¬p) : false = decide p := by simp [h]
theorem dtt {p : Prop} [Decidable p] (h : p) : true = decide p := by simp [h]
theorem ddd {p q : Prop} [Decidable p] [Decidable q] (h : p ↔ q) : decide p = decide q := by simp [h]
abbrev I64 : Ty := .int .i64
abbrev Q2 : Ty := .a2 (.int .i64)
abbrev FR : Ty := .s2 (.int .i64) (.int .i64)
abbrev SI : Ty := .sl (.int .i64)
abbrev SQ : Ty := .sl (.a2 (.int .i64))
abbrev SF : Ty := .sl (.s2 (.int .i64) (.int .i64))
def st85 (p : Int × Int) : St := ⟨.int .i64 p.1 :: .int .i64 p.2 :: dd 13, []⟩
def inv85 (a b : Int) (x : Int × Int) : Prop := Int.gcd x.1 x.2 = Int.gcd a b /\ x.1.natAbs <= max a.natAbs b.natAbs /\ x.2.natAbs <= max a.natAbs b.natAbs
def ex85 (a b : Int) : List (List Nat × Ex) := [([0], ⟨0, Int, fun g => g.natAbs = Int.gcd a b /\ g.natAbs <= max a.natAbs b.natAbs, fun g => ⟨.int .i64 g :: dd 14, []⟩⟩)]
noncomputable def H85 (a b : Int) : Nat -> Option Hint := fun _ => some ⟨chk 0 [0, 1] (inv85 a b) st85, (ex85 a b).map (·.2)⟩
noncomputable def L85 : Code := lp (bodyOf Tryd.f85) 0
theorem loop85 (a b : Int) (R : Exit -> St -> Prop) : LoopOK (X []) L85 ⟨chk 0 [0, 1] (inv85 a b) st85, (ex85 a b).map (·.2)⟩ R := by
 refine loop_ok (X_ok []) (H := fun _ _ => none) [0, 1] (inv85 a b) st85 (fun x => x.2.natAbs) (ex85 a b) 60 fun x hx => ?_
 refine of_eq (q := True /\
 True /\
   (¬x.snd = 0 ->
       True /\
         True /\
           True /\
             x.snd ≠ 0 /\
               True /\
                 True /\
                   ∃ y,
                     (inv85 a b y /\ y.snd.natAbs < x.snd.natAbs) /\
                       (x.snd = y.fst /\ x.fst.tmod x.snd = y.snd /\ True) /\ True) /\
     (¬¬x.snd = 0 -> ∃ y : Int, (Int.natAbs y = a.gcd b /\ Int.natAbs y <= max a.natAbs b.natAbs) /\ (x.fst = y /\ True) /\ True)) (by kernel_rfl) ?_
 simp only [true_and, and_true]
 obtain ⟨h1, h2, h3⟩ := hx
 refine ⟨fun h => ⟨h, (x.2, x.1.tmod x.2), ⟨⟨?_, ?_, ?_⟩, ?_⟩, rfl, rfl⟩, fun h => ⟨x.1, ⟨?_, ?_⟩, rfl⟩⟩
 · rw [<- h1]
   simp only [Int.gcd, Int.natAbs_tmod]
   rw [Nat.gcd_comm x.1.natAbs, Nat.gcd_comm x.2.natAbs, <- Nat.gcd_rec]
 · exact h3
 · simp only [Int.natAbs_tmod]
   have := Nat.mod_le x.1.natAbs x.2.natAbs
   omega
 · simp only [Int.natAbs_tmod]
   exact Nat.mod_lt _ (by omega)
 · have : x.2 = 0 := Classical.not_not.mp h
   rw [this] at h1
   simpa using h1
 · exact h2
theorem call85 (a b : Int) (h : small a /\ small b) : GCall Tryd.prog gl 85 true [.int .i64 a, .int .i64 b] [] [.int .i64 (gcdR a b)] [] := by
 obtain ⟨ha, hb⟩ := h
 unfold small at ha hb
 refine gcall_of (X := X []) (X_ok []) (f := 85) (fn := Tryd.f85) (c := bodyOf Tryd.f85) (by kernel_rfl) (by kernel_rfl) (view := false) (rvs := [.tmp 4]) (by kernel_rfl) (H := H85 a b) 60 (by kernel_rfl) ?_
 refine of_eq (q := True /\
 LoopOK (X []) L85 { J := chk 0 [0, 1] (inv85 a b) st85, exits := List.map (fun x => x.snd) (ex85 a b) } (RetR (X []) true false [ResultVar.tmp 4] [AV.int IntKind.i64 (gcdR a b)] []) /\
   (∃ y, inv85 a b y /\ (a = y.fst /\ b = y.snd /\ True) /\ True) /\
     (∀ (y : Int),
         Int.natAbs y = a.gcd b /\ Int.natAbs y <= max a.natAbs b.natAbs ->
           True /\
             True /\ inR IntKind.i64 (-y) /\ True /\ True /\ True /\ (maxI (maxI y (-y)) 1 = gcdR a b /\ True) /\ True) /\
       True) (by kernel_rfl) ?_
 simp only [true_and, and_true]
 refine ⟨loop85 a b _, ⟨(a, b), ⟨rfl, ?_, ?_⟩, rfl, rfl⟩, fun y hy => ⟨?_, ?_⟩⟩
 · simp only; omega
 · simp only; omega
 · simp only [inR]; omega
 · simp only [gcdR, maxI]; split <;> split <;> omega
def e85 : Entry Tryd.prog gl := entry2 85 ⟨Tryd.f85, by kernel_rfl, by kernel_rfl, by kernel_rfl⟩ (.int .i64) (.int .i64) (fun a b => small a /\ small b) true (fun a b => [.int .i64 (gcdR a b)]) (fun _ _ => []) call85
end Go.Am.Bern

/- Bern: the reference's fractions. -/
namespace Go.Am.Bern
open Go Go.Am Go.Proofs
theorem inR_of_small {a : Int} (h : small a) : inR .i64 a := by unfold small at h; simp only [inR]; omega
theorem small_tdiv {a b : Int} (h : small a) : small (a.tdiv b) := by
 unfold small at *
 rw [Int.natAbs_tdiv]
 exact Nat.lt_of_le_of_lt (Nat.div_le_self ..) h
theorem call46 (a b : Int) (h : small a /\ small b) : GCall Tryd.prog gl 46 true [.int .i64 a, .int .i64 b] [] [ofD (.a2 (.int .i64)) (fracR a b)] [] := by
 refine gcall_of (X := X [e85]) (X_ok [e85]) (f := 46) (fn := Tryd.f46) (c := bodyOf Tryd.f46) (by kernel_rfl) (by kernel_rfl) (view := false) (rvs := [.cell 4 48]) (by kernel_rfl) (H := fun _ => none) 60 (by kernel_rfl) ?_
 refine of_eq (q := True /\ True /\ True /\ ((small a /\ small b) /\ True) /\ True /\ True /\ True /\ (¬gcdR a b = 0 /\ inR .i64 (a.tdiv (gcdR a b))) /\ True /\ True /\ (¬gcdR a b = 0 /\ inR .i64 (b.tdiv (gcdR a b))) /\ True /\ True /\ (True /\ True) /\ ([a.tdiv (gcdR a b), b.tdiv (gcdR a b)] = [(fracR a b).fst, (fracR a b).snd] /\ True) /\ True) (by kernel_rfl) ?_
 simp only [true_and, and_true]
 have hg := gcdR_pos a b
 exact ⟨h, ⟨by omega, inR_of_small (small_tdiv h.1)⟩, ⟨by omega, inR_of_small (small_tdiv h.2)⟩, rfl⟩
def e46 : Entry Tryd.prog gl := entry2 46 ⟨Tryd.f46, by kernel_rfl, by kernel_rfl, by kernel_rfl⟩ (.int .i64) (.int .i64) (fun a b => small a /\ small b) true (fun a b => [ofD (.a2 (.int .i64)) (fracR a b)]) (fun _ _ => []) call46
theorem fracR_small {a b : Int} (h : small a /\ small b) : (¬gcdR a b = 0 /\ inR .i64 (a.tdiv (gcdR a b))) /\ (¬gcdR a b = 0 /\ inR .i64 (b.tdiv (gcdR a b))) := by
 have hg := gcdR_pos a b
 exact ⟨⟨by omega, inR_of_small (small_tdiv h.1)⟩, ⟨by omega, inR_of_small (small_tdiv h.2)⟩⟩
theorem call86 (r s : Rat) (h : addOk r s) : GCall Tryd.prog gl 86 true [ofD (.a2 (.int .i64)) (qp r), ofD (.a2 (.int .i64)) (qp s)] [] [ofD (.a2 (.int .i64)) (qp (r + s))] [] := by
 refine gcall_of (X := X [e85, e46]) (X_ok [e85, e46]) (f := 86) (fn := Tryd.f86) (c := bodyOf Tryd.f86) (by kernel_rfl) (by kernel_rfl) (view := false) (rvs := [.cell 4 48]) (by kernel_rfl) (H := fun _ => none) 60 (by kernel_rfl) ?_
 refine of_eq (q := True /\ True /\ True /\ idxPre (1 : Int) (2 : Nat) /\ True /\ idxPre (1 : Int) (2 : Nat) /\ True /\ ((small (r.den : Int) /\ small (s.den : Int)) /\ True) /\ True /\ idxPre (0 : Int) (2 : Nat) /\ True /\ idxPre (1 : Int) (2 : Nat) /\ True /\ True /\ (¬gcdR (r.den : Int) (s.den : Int) = 0 /\ inR .i64 ((s.den : Int).tdiv (gcdR (r.den : Int) (s.den : Int)))) /\ inR .i64 (r.num * (s.den : Int).tdiv (gcdR (r.den : Int) (s.den : Int))) /\ idxPre (0 : Int) (2 : Nat) /\ True /\ idxPre (1 : Int) (2 : Nat) /\ True /\ True /\ (¬gcdR (r.den : Int) (s.den : Int) = 0 /\ inR .i64 ((r.den : Int).tdiv (gcdR (r.den : Int) (s.den : Int)))) /\ inR .i64 (s.num * (r.den : Int).tdiv (gcdR (r.den : Int) (s.den : Int))) /\ inR .i64 (r.num * (s.den : Int).tdiv (gcdR (r.den : Int) (s.den : Int)) + s.num * (r.den : Int).tdiv (gcdR (r.den : Int) (s.den : Int))) /\ idxPre (1 : Int) (2 : Nat) /\ True /\ True /\ (¬gcdR (r.den : Int) (s.den : Int) = 0 /\ inR .i64 ((r.den : Int).tdiv (gcdR (r.den : Int) (s.den : Int)))) /\ idxPre (1 : Int) (2 : Nat) /\ True /\ inR .i64 ((r.den : Int).tdiv (gcdR (r.den : Int) (s.den : Int)) * (s.den : Int)) /\ (small (r.num * (s.den : Int).tdiv (gcdR (r.den : Int) (s.den : Int)) + s.num * (r.den : Int).tdiv (gcdR (r.den : Int) (s.den : Int))) /\ small ((r.den : Int).tdiv (gcdR (r.den : Int) (s.den : Int)) * (s.den : Int))) /\ True /\ (True /\ True) /\ ([(fracR (r.num * (s.den : Int).tdiv (gcdR (r.den : Int) (s.den : Int)) + s.num * (r.den : Int).tdiv (gcdR (r.den : Int) (s.den : Int))) ((r.den : Int).tdiv (gcdR (r.den : Int) (s.den : Int)) * (s.den : Int))).fst, (fracR (r.num * (s.den : Int).tdiv (gcdR (r.den : Int) (s.den : Int)) + s.num * (r.den : Int).tdiv (gcdR (r.den : Int) (s.den : Int))) ((r.den : Int).tdiv (gcdR (r.den : Int) (s.den : Int)) * (s.den : Int))).snd] = [(r + s).num, (↑(r + s).den : Int)] /\ True) /\ True) (by kernel_rfl) ?_
 simp only [true_and, and_true]
 obtain ⟨g, p, q, e0, hg, ep, eq, hp, hq, h1, h2, h3, h4, h5, h6, h7, h8, h9, h10, h11, h12, h13, hs, hs'⟩ := add_facts h
 rw [e0, ep, eq, fracR_eq h5, hs]
 have i0 : idxPre 0 2 := by unfold idxPre; omega
 have i1 : idxPre 1 2 := by unfold idxPre; omega
 have g0 : ¬ g = 0 := by omega
 exact ⟨i1, i1, ⟨h8, h9⟩, i0, i1, ⟨g0, inR_of_small h7⟩, inR_of_small h1, i0, i1, ⟨g0, inR_of_small h6⟩, inR_of_small h2, inR_of_small h3, i1, ⟨g0, inR_of_small h6⟩, i1, inR_of_small h4, ⟨h3, h4⟩, rfl⟩
def e86 : Entry Tryd.prog gl := entry2 86 ⟨Tryd.f86, by kernel_rfl, by kernel_rfl, by kernel_rfl⟩ (.a2 (.int .i64)) (.a2 (.int .i64)) (fun x y => good x /\ good y /\ addOk (rat x) (rat y)) true (fun x y => [ofD (.a2 (.int .i64)) (qp (rat x + rat y))]) (fun _ _ => [])
 fun x y h => by have := call86 _ _ h.2.2; rwa [h.1, h.2.1] at this
theorem call87 (r s : Rat) (h : mulOk r s) : GCall Tryd.prog gl 87 true [ofD (.a2 (.int .i64)) (qp r), ofD (.a2 (.int .i64)) (qp s)] [] [ofD (.a2 (.int .i64)) (qp (r * s))] [] := by
 refine gcall_of (X := X [e85, e46]) (X_ok [e85, e46]) (f := 87) (fn := Tryd.f87) (c := bodyOf Tryd.f87) (by kernel_rfl) (by kernel_rfl) (view := false) (rvs := [.cell 4 48]) (by kernel_rfl) (H := fun _ => none) 60 (by kernel_rfl) ?_
 refine of_eq (q := True /\ True /\ True /\ idxPre (0 : Int) (2 : Nat) /\ True /\ idxPre (1 : Int) (2 : Nat) /\ True /\ (small r.num /\ small (s.den : Int)) /\ idxPre (0 : Int) (2 : Nat) /\ True /\ idxPre (1 : Int) (2 : Nat) /\ True /\ (small s.num /\ small (r.den : Int)) /\ True /\ True /\ idxPre (0 : Int) (2 : Nat) /\ True /\ True /\ (¬gcdR r.num (s.den : Int) = 0 /\ inR .i64 (r.num.tdiv (gcdR r.num (s.den : Int)))) /\ idxPre (0 : Int) (2 : Nat) /\ True /\ True /\ (¬gcdR s.num (r.den : Int) = 0 /\ inR .i64 (s.num.tdiv (gcdR s.num (r.den : Int)))) /\ inR .i64 (r.num.tdiv (gcdR r.num (s.den : Int)) * s.num.tdiv (gcdR s.num (r.den : Int))) /\ idxPre (1 : Int) (2 : Nat) /\ True /\ True /\ (¬gcdR s.num (r.den : Int) = 0 /\ inR .i64 ((r.den : Int).tdiv (gcdR s.num (r.den : Int)))) /\ idxPre (1 : Int) (2 : Nat) /\ True /\ True /\ (¬gcdR r.num (s.den : Int) = 0 /\ inR .i64 ((s.den : Int).tdiv (gcdR r.num (s.den : Int)))) /\ inR .i64 ((r.den : Int).tdiv (gcdR s.num (r.den : Int)) * (s.den : Int).tdiv (gcdR r.num (s.den : Int))) /\ (small (r.num.tdiv (gcdR r.num (s.den : Int)) * s.num.tdiv (gcdR s.num (r.den : Int))) /\ small ((r.den : Int).tdiv (gcdR s.num (r.den : Int)) * (s.den : Int).tdiv (gcdR r.num (s.den : Int)))) /\ True /\ (True /\ True) /\ ([(fracR (r.num.tdiv (gcdR r.num (s.den : Int)) * s.num.tdiv (gcdR s.num (r.den : Int))) ((r.den : Int).tdiv (gcdR s.num (r.den : Int)) * (s.den : Int).tdiv (gcdR r.num (s.den : Int)))).fst, (fracR (r.num.tdiv (gcdR r.num (s.den : Int)) * s.num.tdiv (gcdR s.num (r.den : Int))) ((r.den : Int).tdiv (gcdR s.num (r.den : Int)) * (s.den : Int).tdiv (gcdR r.num (s.den : Int)))).snd] = [(r * s).num, (↑(r * s).den : Int)] /\ True) /\ True) (by kernel_rfl) ?_
 simp only [true_and, and_true]
 obtain ⟨g, k, e1, e2, hg, hk, h1, h2, h3, h4⟩ := mul_facts h.2.2
 have hd := (r * s).den_pos
 rw [e1, e2, h1, h2, fracR_eq (by omega)]
 have i0 : idxPre 0 2 := by unfold idxPre; omega
 have i1 : idxPre 1 2 := by unfold idxPre; omega
 have g0 : ¬ g = 0 := by omega
 have k0 : ¬ k = 0 := by omega
 refine ⟨i0, i1, ⟨h.1.1, h.2.1.2⟩, i0, i1, ⟨h.2.1.1, h.1.2⟩, i0, ⟨g0, inR_of_small (small_tdiv h.1.1)⟩, i0, ⟨k0, inR_of_small (small_tdiv h.2.1.1)⟩, inR_of_small h3, i1, ⟨k0, inR_of_small (small_tdiv h.1.2)⟩, i1, ⟨g0, inR_of_small (small_tdiv h.2.1.2)⟩, inR_of_small h4, ⟨h3, h4⟩, ?_⟩
 rw [Rat.num_divInt_den]; try rfl
def e87 : Entry Tryd.prog gl := entry2 87 ⟨Tryd.f87, by kernel_rfl, by kernel_rfl, by kernel_rfl⟩ (.a2 (.int .i64)) (.a2 (.int .i64)) (fun x y => good x /\ good y /\ mulOk (rat x) (rat y)) true (fun x y => [ofD (.a2 (.int .i64)) (qp (rat x * rat y))]) (fun _ _ => [])
 fun x y h => by have := call87 _ _ h.2.2; rwa [h.1, h.2.1] at this
end Go.Am.Bern

/- Bern, plain: values of polynomials. -/
namespace Go.Am.Bern
def coefs (l : List Int) : Prop := ∀ x ∈ l, -100 <= x /\ x <= 100
instance (l : List Int) : Decidable (coefs l) := by unfold coefs; infer_instance
def hval (x : Rat) : List Int -> Rat
 | [] => 0
 | a :: l => hval x l * x + (a : Rat)
/-- From 0 to 1, with a small denominator. -/
def part (m : Int) (x : Rat) : Prop := 0 <= x.num /\ x.num <= x.den /\ (x.den : Int) <= m
theorem pow_bound {b : Int} (h : 1 <= b /\ b <= 64) : ∀ k : Nat, 0 < b ^ k /\ b ^ k <= 64 ^ k
 | 0 => by simp
 | k + 1 => by
   have ih := pow_bound h k
   rw [Int.pow_succ, Int.pow_succ]
   exact ⟨Int.mul_pos ih.1 (by omega), Int.mul_le_mul ih.2 h.2 (by omega) (by have := pow_bound (b := 64) (by omega) k; omega)⟩
theorem pow_bound7 {b : Int} (h : 1 <= b /\ b <= 64) {k : Nat} (hk : k <= 7) : 0 < b ^ k /\ b ^ k <= 4398046511104 := by
 refine ⟨(pow_bound h k).1, Int.le_trans (pow_bound h k).2 ?_⟩
 have : (64 : Nat) ^ k <= 64 ^ 7 := Nat.pow_le_pow_right (by omega) hk
 have : ((64 : Nat) ^ k : Nat) <= (4398046511104 : Int) := by omega
 rw [Int.natCast_pow] at this; exact this
theorem fr.zero : fr 1 0 (0 : Rat) := ⟨0, by simp, by omega, by omega⟩
theorem fr.by {D M D' M' : Int} {r : Rat} (h : fr D M r) (hD : D = D') (hM : M = M') : fr D' M' r := by subst hD hM; exact h
theorem fr.mulR {D M b : Int} {r x : Rat} (hr : fr D M r) (hx : 0 <= x.num /\ x.num <= x.den) (hb : (x.den : Int) = b) : fr (D * b) (M * b) (r * x) := by
 have := hr.mul (D' := b) (n := x.num) b ⟨by omega, by omega⟩
 rwa [<- hb, Rat.num_divInt_den, hb] at this
theorem hval_fr {x : Rat} (hx : part 64 x) : ∀ {l : List Int}, coefs l -> fr ((x.den : Int) ^ l.length) (100 * l.length * (x.den : Int) ^ l.length) (hval x l)
 | [], _ => fr.zero.by (by simp) (by simp)
 | a :: l, h => by
   have ih := hval_fr hx (l := l) fun y hy => h y (.tail _ hy)
   have hb := pow_bound (b := x.den) ⟨by have := x.den_pos; omega, hx.2.2⟩ (l.length + 1)
   have h1 := (ih.mulR ⟨hx.1, hx.2.1⟩ rfl)
   have h2 := (fr.cast (h a (.head _))).scale hb.1
   have e : (x.den : Int) ^ l.length * x.den = (x.den : Int) ^ (l.length + 1) := rfl
   rw [e] at h1
   have h3 := h1.add (h2.by (Int.one_mul _) rfl) hb.1
   refine h3.by rfl ?_
   rw [List.length_cons]
   rw [Int.mul_assoc (100 * (l.length : Int)), e, <- Int.add_mul]
   congr 1
theorem hval_ok {x : Rat} (hx : part 64 x) {l : List Int} {a : Int} (h : coefs (a :: l)) (hl : l.length <= 6) : mulOk (hval x l) x /\ addOk (hval x l * x) a := by
 have hb : (1 : Int) <= x.den /\ (x.den : Int) <= 64 := ⟨by have := x.den_pos; omega, hx.2.2⟩
 have h0 := hval_fr hx (l := l) fun y hy => h y (.tail _ hy)
 have p1 := pow_bound7 hb (k := l.length + 1) (by omega)
 have p0 := pow_bound7 hb (k := l.length) (by omega)
 have h1 := (h0.mulR ⟨hx.1, hx.2.1⟩ rfl)
 have h2 := (fr.cast (h a (.head _))).scale p1.1
 have e : (x.den : Int) ^ l.length * x.den = (x.den : Int) ^ (l.length + 1) := rfl
 rw [e] at h1
 have c0 : 100 * (l.length : Int) * (x.den : Int) ^ l.length <= 700 * 4398046511104 := Int.mul_le_mul (by omega) p0.2 (by omega) (by omega)
 have c1 : 100 * (l.length : Int) * (x.den : Int) ^ l.length * x.den <= 700 * 4398046511104 := by
   rw [Int.mul_assoc, e]
   exact Int.mul_le_mul (by omega) p1.2 (by omega) (by omega)
 refine ⟨⟨h0.sq p0.1 (by omega) (by omega), ⟨by unfold small; have := hx; unfold part at this; omega, by unfold small; omega⟩, _, _, p1.1, by omega, ?_, h1⟩, _, _, _, p1.1, by omega, h1, h2.by (Int.one_mul _) rfl, ?_⟩
 · omega
 · omega
end Go.Am.Bern

/- Bern, plain: corners; divisions. -/
namespace Go.Am.Bern
def ch : Nat -> Nat -> Int
 | _, 0 => 1
 | 0, _ + 1 => 0
 | n + 1, k + 1 => ch n k + ch n (k + 1)
theorem ch_facts0 : ∀ n : Fin 7, ∀ k : Fin 7, k.val <= n.val -> 1 <= ch n k /\ ch n k <= 20 /\ ch n k * (60 / ch n k) = 60 /\ 1 <= 60 / ch n k /\ 60 / ch n k <= 60 := by decide
theorem ch_facts {n k : Nat} (hn : n <= 6) (hk : k <= n) : 1 <= ch n k /\ ch n k <= 20 /\ ch n k * (60 / ch n k) = 60 /\ 1 <= 60 / ch n k /\ 60 / ch n k <= 60 := ch_facts0 ⟨n, by omega⟩ ⟨k, by omega⟩ hk
def term (p : List Int) (n i k : Nat) : Rat := Rat.divInt (p.getD k 0 * ch i k) (ch n k)
def wsum (p : List Int) (n i : Nat) : Nat -> Rat
 | 0 => 0
 | k + 1 => wsum p n i k + term p n i k
def whole (p : List Int) : List Rat := (List.range p.length).map fun i => wsum p (p.length - 1) i (i + 1)
theorem whole_length (p : List Int) : (whole p).length = p.length := by simp [whole]
theorem mul_abs {a b A B : Int} (ha : -A <= a /\ a <= A) (hb : -B <= b /\ b <= B) : -(A * B) <= a * b /\ a * b <= A * B := by
 have h : (a * b).natAbs <= A.natAbs * B.natAbs := by rw [Int.natAbs_mul]; exact Nat.mul_le_mul (by omega) (by omega)
 have e : ((A.natAbs * B.natAbs : Nat) : Int) = A * B := by rw [Int.natCast_mul]; congr 1 <;> omega
 omega
theorem coefs_getD {p : List Int} (h : coefs p) (k : Nat) : -100 <= p.getD k 0 /\ p.getD k 0 <= 100 := by
 by_cases hk : k < p.length
 · exact h _ (mem_getD hk)
 · rw [List.getD_eq_getElem?_getD, List.getElem?_eq_none (by omega)]; simp
theorem term_num {p : List Int} (h : coefs p) {i k : Nat} (hi : i <= 6) (hk : k <= i) : -2000 <= p.getD k 0 * ch i k /\ p.getD k 0 * ch i k <= 2000 := by
 have := ch_facts hi hk
 exact mul_abs (A := 100) (B := 20) (coefs_getD h k) (by omega)
theorem term_fr {p : List Int} (h : coefs p) {n i k : Nat} (hn : n <= 6) (hi : i <= n) (hk : k <= i) : fr 60 120000 (term p n i k) := by
 have hc := ch_facts hn (Nat.le_trans hk hi)
 have ht := term_num h (by omega : i <= 6) hk
 refine ⟨p.getD k 0 * ch i k * (60 / ch n k), ?_, ?_⟩
 · unfold term
   generalize 60 / ch n k = q at hc |-
   have e : (60 : Int) = ch n k * q := by omega
   rw [e, Rat.divInt_mul_right (by omega)]
 · have := mul_abs (A := 2000) (B := 60) ht (b := 60 / ch n k) (by omega)
   omega
theorem wsum_fr {p : List Int} (h : coefs p) {n i : Nat} (hn : n <= 6) (hi : i <= n) : ∀ {k : Nat}, k <= i + 1 -> fr 60 (120000 * k) (wsum p n i k)
 | 0, _ => (fr.zero.scale (k := 60) (by omega)).by (by omega) (by omega)
 | k + 1, hk => ((wsum_fr h hn hi (k := k) (by omega)).add (term_fr h hn hi (by omega)) (by omega)).by rfl (by omega)
theorem wsum_ok {p : List Int} (h : coefs p) {n i k : Nat} (hn : n <= 6) (hi : i <= n) (hk : k <= i) : addOk (wsum p n i k) (term p n i k) :=
 ⟨60, _, _, by omega, by omega, wsum_fr h hn hi (by omega), term_fr h hn hi hk, by omega⟩
def frs (D M : Int) (l : List Rat) : Prop := ∀ r ∈ l, fr D M r
def avg (x a b : Rat) : Rat := a * (1 - x) + b * x
def dcs (x : Rat) : List Rat -> List Rat
 | a :: b :: l => avg x a b :: dcs x (b :: l)
 | _ => []
def divL (x : Rat) : Nat -> List Rat -> List Rat
 | 0, _ => []
 | n + 1, l => l.getD 0 0 :: divL x n (dcs x l)
def divR (x : Rat) : Nat -> List Rat -> List Rat -> List Rat
 | 0, _, acc => acc
 | n + 1, l, acc => divR x n (dcs x l) (l.getD (l.length - 1) 0 :: acc)
/-- Both sides. -/
def dvL (x : Rat) (l : List Rat) : List Rat := divL x l.length l
def dvR (x : Rat) (l : List Rat) : List Rat := divR x l.length l []
theorem dcs_length (x : Rat) : ∀ l : List Rat, (dcs x l).length = l.length - 1
 | [] => rfl
 | [_] => rfl
 | a :: b :: l => by simp only [dcs, List.length_cons, dcs_length x (b :: l)]; omega
theorem dcs_getD (x : Rat) : ∀ (l : List Rat) (k : Nat), k + 1 < l.length -> (dcs x l).getD k 0 = avg x (l.getD k 0) (l.getD (k + 1) 0)
 | [], k, h => by simp at h
 | [_], k, h => by simp at h
 | a :: b :: l, 0, _ => rfl
 | a :: b :: l, k + 1, h => by
   have := dcs_getD x (b :: l) k (by simpa using h)
   simpa [dcs] using this
theorem dcs_take (x : Rat) {l : List Rat} {k : Nat} (h : k + 1 < l.length) : (dcs x l).take (k + 1) = (dcs x l).take k ++ [avg x (l.getD k 0) (l.getD (k + 1) 0)] := by
 rw [take_getD (d := 0) (by rw [dcs_length]; omega), dcs_getD x l k h]
theorem divL_length (x : Rat) : ∀ n l, (divL x n l).length = n
 | 0, _ => rfl
 | n + 1, l => by simp [divL, divL_length x n]
theorem divR_length (x : Rat) : ∀ n l acc, (divR x n l acc).length = n + acc.length
 | 0, _, acc => by simp [divR]
 | n + 1, l, acc => by simp only [divR, divR_length x n, List.length_cons]; omega
theorem dvL_length (x : Rat) (l : List Rat) : (dvL x l).length = l.length := divL_length ..
theorem dvR_length (x : Rat) (l : List Rat) : (dvR x l).length = l.length := by simp [dvR, divR_length]
theorem sub_self_num (x : Rat) : qp (1 - x) = ((x.den : Int) - x.num, (x.den : Int)) := by
 have hc : Nat.Coprime ((x.den : Int) - x.num).natAbs x.den := by
   have h := x.reduced
   have : (((x.den : Int) - x.num).natAbs.gcd x.den) ∣ 1 := by
     rw [<- h]
     refine Nat.dvd_gcd ?_ (Nat.gcd_dvd_right ..)
     have h1 : ((((x.den : Int) - x.num).natAbs.gcd x.den : Nat) : Int) ∣ (x.den : Int) - x.num := by
       rw [Int.ofNat_dvd_left]; exact Nat.gcd_dvd_left ..
     have h2 : ((((x.den : Int) - x.num).natAbs.gcd x.den : Nat) : Int) ∣ (x.den : Int) := by
       rw [Int.ofNat_dvd]; exact Nat.gcd_dvd_right ..
     have h3 := Int.dvd_sub h2 h1
     rw [show (x.den : Int) - ((x.den : Int) - x.num) = x.num by omega, Int.ofNat_dvd_left] at h3
     exact h3
   exact Nat.dvd_one.mp this
 have e : (1 - x : Rat) = ⟨(x.den : Int) - x.num, x.den, x.den_nz, hc⟩ := by
   rw [Rat.mk_eq_divInt]
   have h1 : (1 : Rat) = Rat.divInt (x.den : Int) (x.den : Int) := (Rat.divInt_self' (by have := x.den_nz; omega)).symm
   conv => lhs; rw [h1, <- Rat.num_divInt_den x]
   have h0 : (x.den : Int) ≠ 0 := by have := x.den_nz; omega
   rw [Rat.num_divInt_den, <- h1, Rat.sub_eq_add_neg]
   conv => lhs; rw [h1]
   rw [<- Rat.num_divInt_den x, Rat.neg_divInt, Rat.num_divInt_den x, Rat.divInt_add_divInt _ _ h0 h0, <- Int.add_mul, Rat.divInt_mul_right h0]
   congr 1
 rw [e]; try rfl
/-- What a step of a division needs. -/
theorem avg_ok {D M b : Int} {x r s : Rat} (hD : 0 < D) (hb : (x.den : Int) = b) (hx : 0 <= x.num /\ x.num <= x.den) (h1 : D * b < 9223372036854775808) (h2 : M * b < 9223372036854775808) (hr : fr D M r) (hs : fr D M s) :
   mulOk r (1 - x) /\ mulOk s x /\ addOk (r * (1 - x)) (s * x) /\ fr (D * b) (M * b) (avg x r s) := by
 have hb1 : 1 <= b := by have := x.den_pos; omega
 have hM : 0 <= M := by obtain ⟨m, _, g1, g2⟩ := hr; omega
 have hDb : D <= D * b := by have := Int.mul_le_mul_of_nonneg_left hb1 (Int.le_of_lt hD); omega
 have hMb : M <= M * b := by have := Int.mul_le_mul_of_nonneg_left hb1 hM; omega
 have hDb0 : 0 < D * b := by omega
 have hn : (1 - x).num = b - x.num := by have := congrArg Prod.fst (sub_self_num x); simp at this; omega
 have hd : ((1 - x).den : Int) = b := by have := congrArg Prod.snd (sub_self_num x); simp at this; omega
 have e1 : Rat.divInt (b - x.num) b = 1 - x := by rw [<- hn, <- hd, Rat.num_divInt_den]
 have e2 : Rat.divInt x.num b = x := by rw [<- hb, Rat.num_divInt_den]
 have m1 : fr (D * b) (M * (b - x.num)) (r * (1 - x)) := by
   have := hr.mul (D' := b) (n := b - x.num) (b - x.num) ⟨by omega, by omega⟩
   rwa [e1] at this
 have m2 : fr (D * b) (M * x.num) (s * x) := by
   have := hs.mul (D' := b) (n := x.num) x.num ⟨by omega, by omega⟩
   rwa [e2] at this
 have k1 : M * (b - x.num) + M * x.num = M * b := by rw [<- Int.mul_add]; congr 1; omega
 have k2 : 0 <= M * x.num := Int.mul_nonneg hM hx.1
 have k3 : 0 <= M * (b - x.num) := Int.mul_nonneg hM (by omega)
 have hbb : b <= D * b := by have := Int.mul_le_mul_of_nonneg_right (show 1 <= D by omega) (by omega : 0 <= b); omega
 have sx : sq x := ⟨by unfold small; omega, by unfold small; omega⟩
 have sy : sq (1 - x) := ⟨by unfold small; omega, by unfold small; omega⟩
 refine ⟨⟨hr.sq hD (by omega) (by omega), sy, _, _, hDb0, h1, by omega, m1⟩, ⟨hs.sq hD (by omega) (by omega), sx, _, _, hDb0, h1, by omega, m2⟩, ⟨_, _, _, hDb0, h1, m1, m2, by omega⟩, (m1.add m2 hDb0).by rfl k1⟩
/-- What a division needs. -/
structure Dv (D M b : Int) (x : Rat) (l : List Rat) : Prop where
 hD : 0 < D
 hM : 0 <= M
 hb : (x.den : Int) = b
 hx : 0 <= x.num /\ x.num <= x.den
 h1 : D * b ^ 7 < 9223372036854775808
 h2 : M * b ^ 7 < 9223372036854775808
 len : 1 <= l.length /\ l.length <= 7
 row : frs D M l
theorem Dv.b1 {D M b : Int} {x : Rat} {l : List Rat} (h : Dv D M b x l) : 1 <= b := by have := x.den_pos; have := h.hb; omega
theorem pow_mono {b : Int} (hb : 1 <= b) : ∀ {j k : Nat}, j <= k -> 0 < b ^ j /\ b ^ j <= b ^ k
 | j, 0, h => by rw [Nat.le_zero.mp h]; simp
 | j, k + 1, h => by
   by_cases e : j = k + 1
   · subst e; exact ⟨Int.pow_pos (by omega), Int.le_refl _⟩
   · have ih := pow_mono hb (show j <= k by omega)
     refine ⟨ih.1, Int.le_trans ih.2 ?_⟩
     rw [Int.pow_succ]
     have := Int.mul_le_mul_of_nonneg_left hb (Int.le_of_lt (pow_mono hb (Nat.le_refl k)).1)
     omega
theorem Dv.pow {D M b : Int} {x : Rat} {l : List Rat} (h : Dv D M b x l) {j : Nat} (hj : j <= 7) : 0 < D * b ^ j /\ D * b ^ j < 9223372036854775808 /\ M * b ^ j < 9223372036854775808 := by
 have hp := pow_mono h.b1 hj
 have h1 := Int.mul_le_mul_of_nonneg_left hp.2 (Int.le_of_lt h.hD)
 have h2 := Int.mul_le_mul_of_nonneg_left hp.2 h.hM
 have := h.h1; have := h.h2
 exact ⟨Int.mul_pos h.hD hp.1, by omega, by omega⟩
theorem dcs_frs {D M b : Int} {x : Rat} (hD : 0 < D) (hb : (x.den : Int) = b) (hx : 0 <= x.num /\ x.num <= x.den) (h1 : D * b < 9223372036854775808) (h2 : M * b < 9223372036854775808) : ∀ {l : List Rat}, frs D M l -> frs (D * b) (M * b) (dcs x l)
 | [], _ => fun r hr => by simp [dcs] at hr
 | [_], _ => fun r hr => by simp [dcs] at hr
 | a :: c :: l, h => fun r hr => by
   simp only [dcs, List.mem_cons] at hr
   rcases hr with rfl | hr
   · exact (avg_ok hD hb hx h1 h2 (h a (.head _)) (h c (.tail _ (.head _)))).2.2.2
   · exact dcs_frs hD hb hx h1 h2 (l := c :: l) (fun y hy => h y (.tail _ hy)) r hr
/-- Row j of a division. -/
structure Rw (D M b : Int) (x : Rat) (l : List Rat) (row left right : List Rat) : Prop where
 len : row.length <= l.length
 fr : frs (D * b ^ (l.length - row.length)) (M * b ^ (l.length - row.length)) row
 L : left ++ divL x row.length row = dvL x l
 R : divR x row.length row right = dvR x l
theorem Rw.first {D M b : Int} {x : Rat} {l : List Rat} (h : Dv D M b x l) : Rw D M b x l l [] [] :=
 ⟨Nat.le_refl _, by rw [Nat.sub_self]; simpa using h.row, rfl, rfl⟩
theorem Rw.next {D M b : Int} {x : Rat} {l row left right : List Rat} (h : Dv D M b x l) (r : Rw D M b x l row left right) (h0 : 1 <= row.length) : Rw D M b x l (dcs x row) (left ++ [row.getD 0 0]) (row.getD (row.length - 1) 0 :: right) := by
 have hl := dcs_length x row
 have hlen := r.len
 have hn := h.len
 obtain ⟨n, hn'⟩ : ∃ n, row.length = n + 1 := ⟨row.length - 1, by omega⟩
 have hn2 : (dcs x row).length = n := by omega
 have rL := r.L
 have rR := r.R
 rw [hn'] at rL rR
 refine ⟨by omega, ?_, ?_, ?_⟩
 · rw [show l.length - (dcs x row).length = (l.length - row.length) + 1 by omega, Int.pow_succ, <- Int.mul_assoc, <- Int.mul_assoc]
   have p1 := h.pow (j := l.length - row.length) (by omega)
   have p2 := h.pow (j := l.length - row.length + 1) (by omega)
   rw [Int.pow_succ, <- Int.mul_assoc, <- Int.mul_assoc] at p2
   exact dcs_frs p1.1 h.hb h.hx p2.2.1 p2.2.2 r.fr
 · rw [hn2, <- rL]; simp [divL]
 · rw [hn2, <- rR]
   conv => rhs; unfold divR
theorem Rw.avg {D M b : Int} {x : Rat} {l row left right : List Rat} (h : Dv D M b x l) (r : Rw D M b x l row left right) {k : Nat} (hk : k + 1 < row.length) : mulOk (row.getD k 0) (1 - x) /\ mulOk (row.getD (k + 1) 0) x /\ addOk (row.getD k 0 * (1 - x)) (row.getD (k + 1) 0 * x) := by
 have hlen := r.len
 have hn := h.len
 have p1 := h.pow (j := l.length - row.length) (by omega)
 have p2 := h.pow (j := l.length - row.length + 1) (by omega)
 rw [Int.pow_succ, <- Int.mul_assoc, <- Int.mul_assoc] at p2
 have := avg_ok p1.1 h.hb h.hx p2.2.1 p2.2.2 (r.fr _ (mem_getD (d := 0) (show k < row.length by omega))) (r.fr _ (mem_getD (d := 0) hk))
 exact ⟨this.1, this.2.1, this.2.2.1⟩
theorem divL_frs {D M b : Int} {x : Rat} {l : List Rat} (h : Dv D M b x l) : ∀ (n : Nat) (row left right : List Rat), row.length = n -> Rw D M b x l row left right -> frs (D * b ^ 7) (M * b ^ 7) left -> frs (D * b ^ 7) (M * b ^ 7) right -> frs (D * b ^ 7) (M * b ^ 7) (dvL x l) /\ frs (D * b ^ 7) (M * b ^ 7) (dvR x l)
 | 0, row, left, right, hn, r, hl, hr => by
   have r1 := r.L; have r2 := r.R
   rw [hn] at r1 r2
   simp only [divL, List.append_nil] at r1
   simp only [divR] at r2
   rw [<- r1, <- r2]; exact ⟨hl, hr⟩
 | n + 1, row, left, right, hn, r, hl, hr => by
   have up : ∀ y ∈ row, Bern.fr (D * b ^ 7) (M * b ^ 7) y := fun y hy => by
     have h1 := r.fr y hy
     have hj : l.length - row.length <= 7 := by have := h.len; omega
     have hp := (pow_mono h.b1 (Nat.zero_le (7 - (l.length - row.length)))).1
     have h2 := h1.scale (k := b ^ (7 - (l.length - row.length))) (Int.pow_pos (by have := h.b1; omega))
     have e : b ^ (l.length - row.length) * b ^ (7 - (l.length - row.length)) = b ^ 7 := by
       rw [<- Int.pow_add]; congr 1; omega
     rw [Int.mul_assoc, Int.mul_assoc, e] at h2
     exact h2
   refine divL_frs h n _ _ _ (by rw [dcs_length]; omega) (r.next h (by omega)) ?_ ?_
   · intro y hy
     simp only [List.mem_append, List.mem_singleton] at hy
     rcases hy with hy | rfl
     · exact hl y hy
     · exact up _ (mem_getD (by omega))
   · intro y hy
     simp only [List.mem_cons] at hy
     rcases hy with rfl | hy
     · exact up _ (mem_getD (by omega))
     · exact hr y hy
theorem Dv.out {D M b : Int} {x : Rat} {l : List Rat} (h : Dv D M b x l) : frs (D * b ^ 7) (M * b ^ 7) (dvL x l) /\ frs (D * b ^ 7) (M * b ^ 7) (dvR x l) :=
 divL_frs h l.length l [] [] rfl (.first h) (fun y hy => by simp at hy) (fun y hy => by simp at hy)
def half : Rat := ⟨1, 2, by decide, by decide⟩
theorem rat_half : rat (1, 2) = half := rat_qp half
theorem good_half : good (1, 2) := good_qp half
def cnr (p : List Int) : Nat -> Nat -> List Rat
 | 0, _ => whole p
 | d + 1, k => if k % 2 = 0 then dvL half (cnr p d (k / 2)) else dvR half (cnr p d (k / 2))
theorem cnr_length (p : List Int) : ∀ d k, (cnr p d k).length = p.length
 | 0, _ => whole_length p
 | d + 1, k => by unfold cnr; split <;> simp [dvL_length, dvR_length, cnr_length p d]
theorem whole_frs {p : List Int} (h : coefs p) (hl : p.length <= 7) : frs 60 840000 (whole p) := by
 intro r hr
 simp only [whole, List.mem_map, List.mem_range] at hr
 obtain ⟨i, hi, rfl⟩ := hr
 exact (wsum_fr h (n := p.length - 1) (i := i) (by omega) (by omega) (Nat.le_refl _)).mono (by omega)
theorem pow128 : ∀ d : Fin 7, 60 * (2 ^ 7 : Int) ^ d.val * 2 ^ 7 < 9223372036854775808 /\ (d.val <= 5 -> 840000 * (2 ^ 7 : Int) ^ d.val * 2 ^ 7 < 9223372036854775808) /\ 0 < 60 * (2 ^ 7 : Int) ^ d.val /\ 0 <= 840000 * (2 ^ 7 : Int) ^ d.val /\ 840000 * (2 ^ 7 : Int) ^ d.val < 9223372036854775808 := by decide
theorem cnr_dv {p : List Int} (hp : coefs p) (h1 : 1 <= p.length) (hl : p.length <= 7) : ∀ d k, d <= 6 -> frs (60 * (2 ^ 7) ^ d) (840000 * (2 ^ 7) ^ d) (cnr p d k) /\ (d <= 5 -> Dv (60 * (2 ^ 7) ^ d) (840000 * (2 ^ 7) ^ d) 2 half (cnr p d k))
 | 0, k, _ => by
   have := whole_frs hp hl
   refine ⟨by simpa [cnr] using this, fun _ => ⟨by decide, by decide, rfl, ⟨by decide, by decide⟩, by decide, by decide, by rw [cnr_length]; omega, by simpa [cnr] using this⟩⟩
 | d + 1, k, hd => by
   have ih := cnr_dv hp h1 hl d (k / 2) (by omega)
   have hD := (ih.2 (by omega)).out
   have hf : frs (60 * (2 ^ 7) ^ (d + 1)) (840000 * (2 ^ 7) ^ (d + 1)) (cnr p (d + 1) k) := by
     unfold cnr
     rw [Int.pow_succ (2 ^ 7), <- Int.mul_assoc, <- Int.mul_assoc]
     split
     · exact hD.1
     · exact hD.2
   have hb := pow128 ⟨d + 1, by omega⟩
   exact ⟨hf, fun h5 => ⟨hb.2.2.1, hb.2.2.2.1, rfl, ⟨by decide, by decide⟩, hb.1, hb.2.1 h5, by rw [cnr_length]; omega, hf⟩⟩
end Go.Am.Bern

/- Bern: the reference's small functions. -/
namespace Go.Am.Bern
open Go Go.Am Go.Proofs
theorem i02 : idxPre 0 2 := by unfold idxPre; omega
theorem i12 : idxPre 1 2 := by unfold idxPre; omega
theorem idx_nat {i n : Nat} (h : i < n) : idxPre (i : Int) n := by unfold idxPre; omega
def sgn (a : Int) : Int := if 0 < a then 1 else if a < 0 then -1 else 0
def isPoly (l : List Int) : Prop := 1 <= l.length /\ l.length <= 7 /\ coefs l
instance (l : List Int) : Decidable (isPoly l) := by unfold isPoly; infer_instance
def isPoint (x : Int × Int) (most : Int) : Prop := 1 <= x.2 /\ x.2 <= most /\ 0 <= x.1 /\ x.1 <= x.2 /\ gcdR x.1 x.2 = 1
instance (x : Int × Int) (most : Int) : Decidable (isPoint x most) := by unfold isPoint; infer_instance
def isPiece (x : Int × Int) : Prop := 0 <= x.1 /\ x.1 <= 6 /\ 0 <= x.2 /\ x.2 < 2 ^ x.1.toNat
instance (x : Int × Int) : Decidable (isPiece x) := by unfold isPiece; infer_instance
theorem call14 (x : Int × Int) (_ : True) : GCall Tryd.prog gl 14 true [ofD Q2 x] [] [.bool (decide (isPiece x))] [] := by
 refine gcall_of (X := X []) (X_ok []) (f := 14) (fn := Tryd.f14) (c := bodyOf Tryd.f14) (by kernel_rfl) (by kernel_rfl) (view := false) (rvs := [.tmp 2]) (by kernel_rfl) (H := fun _ => none) 80 (by kernel_rfl) ?_
 refine of_eq (q := True /\ True /\ idxPre (0 : Int) (2 : Nat) /\ True /\ True /\ True /\ ((0 : Int) <= x.fst -> idxPre (0 : Int) (2 : Nat) /\ True /\ True /\ True /\ True /\ (x.fst <= 6 -> idxPre (1 : Int) (2 : Nat) /\ True /\ True /\ True /\ True /\ ((0 : Int) <= x.snd -> idxPre (1 : Int) (2 : Nat) /\ True /\ idxPre (0 : Int) (2 : Nat) /\ True /\ (((0 : Int) <= x.fst /\ x.fst < bitsOf .i64) /\ (-9223372036854775808 : Int) <= 1 * 2 ^ Int.toNat x.fst /\ (1 : Int) * 2 ^ Int.toNat x.fst <= 9223372036854775807) /\ True /\ True /\ True /\ True /\ (decide (x.snd < 1 * 2 ^ Int.toNat x.fst) = decide (isPiece x) /\ True) /\ True) /\ (¬(0 : Int) <= x.snd -> True /\ True /\ True /\ (false = decide (isPiece x) /\ True) /\ True)) /\ (¬x.fst <= 6 -> True /\ True /\ True /\ True /\ True /\ (false = decide (isPiece x) /\ True) /\ True)) /\ (¬(0 : Int) <= x.fst -> True /\ True /\ True /\ True /\ True /\ True /\ True /\ (false = decide (isPiece x) /\ True) /\ True)) (by kernel_rfl) ?_
 simp only [true_and, and_true]
 unfold isPiece
 rw [Int.one_mul]
 refine ⟨i02, fun h => ⟨i02, fun h1 => ⟨i12, fun h2 => ⟨i12, i02, ⟨⟨h, by simp only [bitsOf]; omega⟩, ?_⟩, ddd (by omega)⟩, fun h2 => dff (by omega)⟩, fun h2 => dff (by omega)⟩, fun h2 => dff (by omega)⟩
 have : (2 : Int) ^ x.1.toNat <= 2 ^ 6 := by
   have := Nat.pow_le_pow_right (show 0 < 2 by omega) (show x.1.toNat <= 6 by omega)
   exact_mod_cast this
 have : (0 : Int) < 2 ^ x.1.toNat := Int.pow_pos (by omega)
 omega
def e14 : Entry Tryd.prog gl := entry1 14 ⟨Tryd.f14, by kernel_rfl, by kernel_rfl, by kernel_rfl⟩ Q2 (fun _ => True) true (fun x => [.bool (decide (isPiece x))]) (fun _ => []) (call14)
theorem ch_step0 : ∀ n : Fin 7, ∀ i : Fin 7, i.val < n.val -> (ch n i * ((n : Int) - (i + 1) + 1)).tdiv ((i : Int) + 1) = ch n (i + 1) /\ -1000 <= ch n i * ((n : Int) - (i + 1) + 1) /\ ch n i * ((n : Int) - (i + 1) + 1) <= 1000 /\ 0 <= ch n (i + 1) /\ ch n (i + 1) <= 20 := by decide
theorem ch_step {n i : Nat} (hn : n <= 6) (h1 : i < n) : (ch n i * ((n : Int) - (i + 1) + 1)).tdiv ((i : Int) + 1) = ch n (i + 1) /\ -1000 <= ch n i * ((n : Int) - (i + 1) + 1) /\ ch n i * ((n : Int) - (i + 1) + 1) <= 1000 /\ 0 <= ch n (i + 1) /\ ch n (i + 1) <= 20 :=
 ch_step0 ⟨n, by omega⟩ ⟨i, by omega⟩ h1
noncomputable def L88_0 : Code := lp (bodyOf Tryd.f88) 0
def st88 (n k : Nat) (i : Nat) : St := ⟨.int .i64 n :: .int .i64 k :: .dead :: .dead :: .dead :: .int .i64 (ch n i) :: .int .i64 (i + 1 : Int) :: dd 14, []⟩
def inv88 (k : Nat) (i : Nat) : Prop := i <= k
def ex88 (n k : Nat) : List (List Nat × Ex) := [([5], ⟨0, Unit, fun _ => True, fun _ => ⟨.dead :: .dead :: .dead :: .dead :: .dead :: .int .i64 (ch n k) :: dd 15, []⟩⟩)]
noncomputable def H88 (n k : Nat) : Nat -> Option Hint := fun _ => some ⟨chk 0 [0, 1, 5, 6] (inv88 k) (st88 n k), (ex88 n k).map (·.2)⟩
theorem loop88 (n k : Nat) (h : k <= n /\ n <= 6) (R : Exit -> St -> Prop) : LoopOK (X []) L88_0 ⟨chk 0 [0, 1, 5, 6] (inv88 k) (st88 n k), (ex88 n k).map (·.2)⟩ R := by
 refine loop_ok (X_ok []) (H := fun _ _ => none) [0, 1, 5, 6] (inv88 k) (st88 n k) (fun i => k - i) (ex88 n k) 80 fun i hi => ?_
 refine of_eq (q := True /\ True /\ True /\ ((i : Int) + 1 <= (k : Int) -> True /\ True /\ True /\ inR .i64 ((n : Int) - ((i : Int) + 1)) /\ inR .i64 ((n : Int) - ((i : Int) + 1) + 1) /\ inR .i64 (ch n i * ((n : Int) - ((i : Int) + 1) + 1)) /\ True /\ (¬(i : Int) + 1 = 0 /\ inR .i64 ((ch n i * ((n : Int) - ((i : Int) + 1) + 1)).tdiv ((i : Int) + 1))) /\ True /\ True /\ inR .i64 ((i : Int) + 1 + 1) /\ True /\ ∃ (y : Nat), (inv88 k y /\ k - y < k - i) /\ ((n : Int) = (n : Int) /\ (k : Int) = (k : Int) /\ (ch n i * ((n : Int) - ((i : Int) + 1) + 1)).tdiv ((i : Int) + 1) = ch n y /\ (i : Int) + 1 + 1 = (y : Int) + 1 /\ True) /\ True) /\ (¬(i : Int) + 1 <= (k : Int) -> ∃ (y : Unit), True /\ (ch n i = ch n k /\ True) /\ True)) (by kernel_rfl) ?_
 simp only [true_and, and_true]
 unfold inv88 at *
 refine ⟨fun h1 => ?_, fun h1 => ⟨(), by rw [show i = k by omega]⟩⟩
 have h2 := ch_step (n := n) (i := i) h.2 (by omega)
 exact ⟨by simp only [inR]; omega, by simp only [inR]; omega, by simp only [inR]; omega, ⟨by omega, by rw [h2.1]; simp only [inR]; omega⟩, by simp only [inR]; omega, i + 1, ⟨by omega, by omega⟩, h2.1, by omega⟩
theorem call88 (n k : Nat) (h : k <= n /\ n <= 6) : GCall Tryd.prog gl 88 true [.int .i64 n, .int .i64 k] [] [.int .i64 (ch n k)] [] := by
 refine gcall_of (X := X []) (X_ok []) (f := 88) (fn := Tryd.f88) (c := bodyOf Tryd.f88) (by kernel_rfl) (by kernel_rfl) (view := false) (rvs := [.tmp 4]) (by kernel_rfl) (H := (H88 n k)) 80 (by kernel_rfl) ?_
 have hL := loop88 n k h
 refine of_eq (q := True /\ True /\ True /\ LoopOK (X []) L88_0 { J := chk (0 : Nat) [(0 : Nat), (1 : Nat), (5 : Nat), (6 : Nat)] (inv88 k) (st88 n k), exits := List.map (fun (x : List Nat × Ex) => x.snd) (ex88 n k) } (RetR (X []) true false [ResultVar.tmp (4 : Tmp)] [AV.int .i64 (ch n k)] []) /\ (∃ (y : Nat), inv88 k y /\ ((n : Int) = (n : Int) /\ (k : Int) = (k : Int) /\ (1 : Int) = ch n y /\ (1 : Int) = (y : Int) + 1 /\ True) /\ True) /\ (∀ (y : Unit), True -> True /\ True /\ True /\ (ch n k = ch n k /\ True) /\ True) /\ True) (by kernel_rfl) ?_
 simp only [true_and, and_true]
 exact ⟨hL _, ⟨0, by simp [inv88], by simp [ch], by simp⟩, fun _ _ => trivial⟩
def e88 : Entry Tryd.prog gl := entry2 88 ⟨Tryd.f88, by kernel_rfl, by kernel_rfl, by kernel_rfl⟩ I64 I64 (fun (n k : Int) => 0 <= k /\ k <= n /\ n <= 6) true (fun n k => [.int .i64 (ch n.toNat k.toNat)]) (fun _ _ => []) (fun (n k : Int) h => by have h : 0 <= k /\ k <= n /\ n <= 6 := h; have := call88 n.toNat k.toNat (by omega); rwa [Int.toNat_of_nonneg h.1, Int.toNat_of_nonneg (by omega)] at this)
def inv50 (p : List Int) (i : Nat) : Prop := i <= p.length
end Go.Am.Bern

/- Bern: the program's fractions. -/
namespace Go.Am.Bern
open Go Go.Am Go.Proofs
def gcdL (l : List Int) : Nat := l.foldl (fun g x => Nat.gcd g x.natAbs) 0
theorem gcdL_take {l : List Int} {k : Nat} (h : k < l.length) : gcdL (l.take (k + 1)) = Nat.gcd (gcdL (l.take k)) (l.getD k 0).natAbs := by
 unfold gcdL; rw [take_getD (d := 0) h, List.foldl_append]; try rfl
def smalls (l : List Int) : Prop := ∀ x ∈ l, small x
theorem gcdL_small {l : List Int} (h : smalls l) : gcdL l < 9223372036854775808 := by
 have : ∀ (m : List Int) (g : Nat), smalls m -> g < 9223372036854775808 -> m.foldl (fun g x => Nat.gcd g x.natAbs) g < 9223372036854775808 := by
   intro m
   induction m with
   | nil => intro g _ h; exact h
   | cons a m ih =>
     intro g hm hg
     refine ih _ (fun x hx => hm x (.tail _ hx)) ?_
     have ha := hm a (.head _)
     unfold small at ha
     by_cases h0 : g = 0
     · subst h0; simpa using ha
     · exact Nat.lt_of_le_of_lt (Nat.gcd_le_left _ (by omega)) hg
 exact this l 0 h (by omega)
noncomputable def L96_0 : Code := lp (bodyOf Tryd.f96) 0
noncomputable def L96_2 : Code := lp (bodyOf Tryd.f96) 2
def st96 (l : List Int) (p : Nat × Int) : St := ⟨.dead :: .dead :: .dead :: .int .i64 p.2 :: .dead :: .dead :: .sl I64 l :: .int .i64 l.length :: .int .i64 p.1 :: dd 14, []⟩
def inv96 (l : List Int) (p : Nat × Int) : Prop := p.1 <= l.length /\ p.2.natAbs = gcdL (l.take p.1)
def ex96 (l : List Int) : List (List Nat × Ex) := [([3], ⟨0, Int, fun g => g.natAbs = gcdL l, fun g => ⟨.dead :: .dead :: .dead :: .int .i64 g :: dd 19, []⟩⟩)]
def sj96 (l : List Int) (k : Nat) (p : Int × Int) : St := ⟨.dead :: .dead :: .dead :: .int .i64 p.1 :: .dead :: .int .i64 p.2 :: .sl I64 l :: .int .i64 l.length :: .int .i64 k :: dd 14, []⟩
def inj96 (l : List Int) (k : Nat) (p : Int × Int) : Prop := Nat.gcd p.1.natAbs p.2.natAbs = gcdL (l.take (k + 1)) /\ small p.1 /\ small p.2
def ej96 (l : List Int) (k : Nat) : List (List Nat × Ex) := [([3, 6, 7, 8], ⟨2, Int, fun g => g.natAbs = gcdL (l.take (k + 1)), fun g => ⟨.dead :: .dead :: .dead :: .int .i64 g :: .dead :: .dead :: .sl I64 l :: .int .i64 l.length :: .int .i64 k :: dd 14, []⟩⟩)]
noncomputable def H96 (l : List Int) (k : Nat) : Nat -> Option Hint
 | 0 => some ⟨chk 0 [3, 6, 7, 8] (inv96 l) (st96 l), (ex96 l).map (·.2)⟩
 | 2 => some ⟨chk 0 [3, 5, 6, 7, 8] (inj96 l k) (sj96 l k), (ej96 l k).map (·.2)⟩
 | _ => none
theorem loop96_2 (l : List Int) (k : Nat) (R : Exit -> St -> Prop) : LoopOK (X []) L96_2 ⟨chk 0 [3, 5, 6, 7, 8] (inj96 l k) (sj96 l k), (ej96 l k).map (·.2)⟩ R := by
 refine loop_ok (X_ok []) (H := fun _ _ => none) [3, 5, 6, 7, 8] (inj96 l k) (sj96 l k) (fun p => p.2.natAbs) (ej96 l k) 80 fun p hp => ?_
 refine of_eq (q := True /\ True /\ (¬p.snd = 0 -> True /\ True /\ True /\ ¬p.snd = 0 /\ True /\ True /\ ∃ (y : Int × Int), (inj96 l k y /\ y.snd.natAbs < p.snd.natAbs) /\ (p.snd = y.fst /\ p.fst.tmod p.snd = y.snd /\ l = l /\ (l.length : Int) = (l.length : Int) /\ (k : Int) = (k : Int) /\ True) /\ True) /\ (¬¬p.snd = 0 -> ∃ (y : Int), y.natAbs = gcdL (List.take (k + 1) l) /\ (p.fst = y /\ l = l /\ (l.length : Int) = (l.length : Int) /\ (k : Int) = (k : Int) /\ True) /\ True)) (by kernel_rfl) ?_
 simp only [true_and, and_true]
 obtain ⟨h1, h2, h3⟩ := hp
 refine ⟨fun h => ⟨h, (p.2, p.1.tmod p.2), ⟨⟨?_, h3, (tmod_small h3).resolve_right h⟩, tmod_lt h⟩, rfl, rfl⟩, fun h => ⟨p.1, ?_, rfl⟩⟩
 · rw [<- h1]; exact gcd_step ..
 · rw [Classical.not_not.mp h] at h1
   simpa using h1
theorem loop96 (l : List Int) (hl : smalls l) (hn : l.length < 1000000) (R : Exit -> St -> Prop) : LoopOK (X []) L96_0 ⟨chk 0 [3, 6, 7, 8] (inv96 l) (st96 l), (ex96 l).map (·.2)⟩ R := by
 refine loop_ok (X_ok []) (H := fun p i => H96 l p.1 i) [3, 6, 7, 8] (inv96 l) (st96 l) (fun p => l.length - p.1) (ex96 l) 80 fun p hp => ?_
 have hL := loop96_2 l p.1
 refine of_eq (q := True /\ ((p.fst : Int) < (l.length : Int) -> idxPre (p.fst : Int) l.length /\ True /\ True /\ LoopOK (X []) L96_2 { J := chk (0 : Nat) [(3 : Nat), (5 : Nat), (6 : Nat), (7 : Nat), (8 : Nat)] (inj96 l p.fst) (sj96 l p.fst), exits := List.map (fun (x : List Nat × Ex) => x.snd) (ej96 l p.fst) } (bodyR (X []).m0 (ex96 l) R) /\ (∃ (y : Int × Int), inj96 l p.fst y /\ (p.snd = y.fst /\ l.getD p.fst (0 : Int) = y.snd /\ l = l /\ (l.length : Int) = (l.length : Int) /\ (p.fst : Int) = (p.fst : Int) /\ True) /\ True) /\ (∀ (y : Int), y.natAbs = gcdL (List.take (p.fst + 1) l) -> inR .i64 ((p.fst : Int) + 1) /\ True /\ ∃ (y_1 : Nat × Int), (inv96 l y_1 /\ l.length - y_1.fst < l.length - p.fst) /\ (y = y_1.snd /\ l = l /\ (l.length : Int) = (l.length : Int) /\ (p.fst : Int) + 1 = (y_1.fst : Int) /\ True) /\ True) /\ True) /\ (¬(p.fst : Int) < (l.length : Int) -> ∃ (y : Int), y.natAbs = gcdL l /\ (p.snd = y /\ True) /\ True)) (by kernel_rfl) ?_
 simp only [true_and, and_true]
 obtain ⟨h1, h2⟩ := hp
 refine ⟨fun h => ?_, fun h => ⟨p.2, by rw [h2, List.take_of_length_le (by omega)], rfl⟩⟩
 have h' : p.1 < l.length := by omega
 have hs : gcdL (l.take p.1) < 9223372036854775808 := gcdL_small fun x hx => hl x (List.mem_of_mem_take hx)
 refine ⟨idx_nat h', hL _, ⟨(p.2, l.getD p.1 0), ⟨?_, by unfold small; omega, hl _ (mem_getD h')⟩, rfl, rfl⟩, fun y hy => ⟨by simp only [inR]; have := hn; omega, (p.1 + 1, y), ⟨⟨by simp only; omega, hy⟩, by simp only; omega⟩, rfl, by simp⟩⟩
 rw [gcdL_take h', h2]
theorem call96 (l : List Int) (h : smalls l /\ l.length < 1000000) : GCall Tryd.prog gl 96 true [.sl I64 l] [] [.int .i64 (gcdL l)] [] := by
 refine gcall_of (X := X []) (X_ok []) (f := 96) (fn := Tryd.f96) (c := bodyOf Tryd.f96) (by kernel_rfl) (by kernel_rfl) (view := false) (rvs := [.tmp 2]) (by kernel_rfl) (H := (H96 l 0)) 80 (by kernel_rfl) ?_
 have hL := loop96 l h.1 h.2
 refine of_eq (q := True /\ True /\ True /\ True /\ True /\ LoopOK (X []) L96_0 { J := chk (0 : Nat) [(3 : Nat), (6 : Nat), (7 : Nat), (8 : Nat)] (inv96 l) (st96 l), exits := List.map (fun (x : List Nat × Ex) => x.snd) (ex96 l) } (RetR (X []) true false [ResultVar.tmp (2 : Tmp)] [AV.int .i64 (↑(gcdL l) : Int)] []) /\ (∃ (y : Nat × Int), inv96 l y /\ ((0 : Int) = y.snd /\ l = l /\ (l.length : Int) = (l.length : Int) /\ (0 : Int) = (y.fst : Int) /\ True) /\ True) /\ (∀ (y : Int), y.natAbs = gcdL l -> True /\ True /\ inR .i64 (-y) /\ True /\ True /\ True /\ (maxI y (-y) = (↑(gcdL l) : Int) /\ True) /\ True) /\ True) (by kernel_rfl) ?_
 simp only [true_and, and_true]
 have hs := gcdL_small h.1
 exact ⟨hL _, ⟨(0, 0), ⟨by simp, rfl⟩, rfl, rfl⟩, fun y hy => ⟨by simp only [inR]; omega, by unfold maxI; split <;> omega⟩⟩
def e96 : Entry Tryd.prog gl := entry1 96 ⟨Tryd.f96, by kernel_rfl, by kernel_rfl, by kernel_rfl⟩ SI (fun l => smalls l /\ l.length < 1000000) true (fun l => [.int .i64 (gcdL l)]) (fun _ => []) (call96)
theorem gcdL_two (a b : Int) (h : b ≠ 0) : (gcdL [a, b] : Int) = gcdR a b := by
 rw [gcdR_eq (.inr h)]
 simp [gcdL, Int.gcd]
theorem call74 (a b : Int) (h : small a /\ small b /\ 0 < b) : GCall Tryd.prog gl 74 true [.int .i64 a, .int .i64 b] [] [ofD FR (fracR a b)] [] := by
 refine gcall_of (X := X [e96]) (X_ok [e96]) (f := 74) (fn := Tryd.f74) (c := bodyOf Tryd.f74) (by kernel_rfl) (by kernel_rfl) (view := false) (rvs := [.cell 4 106]) (by kernel_rfl) (H := fun _ => none) 80 (by kernel_rfl) ?_
 refine of_eq (q := True /\ True /\ True /\ True /\ ((smalls [a, b] /\ [a, b].length < 1000000) /\ True) /\ True /\ True /\ True /\ (b < 0 -> True /\ inR .i64 (-(↑(gcdL [a, b]) : Int)) /\ True /\ True /\ True /\ (¬-(↑(gcdL [a, b]) : Int) = 0 /\ inR .i64 (a.tdiv (-(↑(gcdL [a, b]) : Int)))) /\ True /\ True /\ (¬-(↑(gcdL [a, b]) : Int) = 0 /\ inR .i64 (b.tdiv (-(↑(gcdL [a, b]) : Int)))) /\ True /\ True /\ (True /\ True) /\ ((a.tdiv (-(↑(gcdL [a, b]) : Int)) = (fracR a b).fst /\ b.tdiv (-(↑(gcdL [a, b]) : Int)) = (fracR a b).snd /\ True) /\ True) /\ True) /\ (¬b < 0 -> True /\ True /\ (¬(↑(gcdL [a, b]) : Int) = 0 /\ inR .i64 (a.tdiv (↑(gcdL [a, b]) : Int))) /\ True /\ True /\ (¬(↑(gcdL [a, b]) : Int) = 0 /\ inR .i64 (b.tdiv (↑(gcdL [a, b]) : Int))) /\ True /\ True /\ (True /\ True) /\ ((a.tdiv (↑(gcdL [a, b]) : Int) = (fracR a b).fst /\ b.tdiv (↑(gcdL [a, b]) : Int) = (fracR a b).snd /\ True) /\ True) /\ True)) (by kernel_rfl) ?_
 simp only [true_and, and_true, gcdL_two a b (by omega)]
 have hs := fracR_small ⟨h.1, h.2.1⟩
 refine ⟨⟨fun x hx => ?_, by simp⟩, fun h1 => by omega, fun _ => ⟨hs.1, hs.2, rfl, rfl⟩⟩
 simp only [List.mem_cons, List.not_mem_nil, or_false] at hx
 rcases hx with rfl | rfl
 · exact h.1
 · exact h.2.1
def e74 : Entry Tryd.prog gl := entry2 74 ⟨Tryd.f74, by kernel_rfl, by kernel_rfl, by kernel_rfl⟩ I64 I64 (fun (a b : Int) => small a /\ small b /\ 0 < b) true (fun a b => [ofD FR (fracR a b)]) (fun _ _ => []) (call74)
theorem call82 (r s : Rat) (h : addOk r s) : GCall Tryd.prog gl 82 true [ofD FR (qp r), ofD FR (qp s)] [] [ofD FR (qp (r + s))] [] := by
 refine gcall_of (X := X [e74]) (X_ok [e74]) (f := 82) (fn := Tryd.f82) (c := bodyOf Tryd.f82) (by kernel_rfl) (by kernel_rfl) (view := false) (rvs := [.cell 4 106]) (by kernel_rfl) (H := fun _ => none) 80 (by kernel_rfl) ?_
 refine of_eq (q := True /\ True /\ True /\ True /\ True /\ True /\ True /\ ((small (r.den : Int) /\ small (s.den : Int) /\ (0 : Int) < (s.den : Int)) /\ True) /\ True /\ True /\ True /\ True /\ True /\ True /\ inR .i64 (r.num * (fracR (r.den : Int) (s.den : Int)).snd) /\ True /\ True /\ True /\ True /\ inR .i64 (s.num * (fracR (r.den : Int) (s.den : Int)).fst) /\ inR .i64 (r.num * (fracR (r.den : Int) (s.den : Int)).snd + s.num * (fracR (r.den : Int) (s.den : Int)).fst) /\ True /\ True /\ True /\ True /\ inR .i64 ((r.den : Int) * (fracR (r.den : Int) (s.den : Int)).snd) /\ ((small (r.num * (fracR (r.den : Int) (s.den : Int)).snd + s.num * (fracR (r.den : Int) (s.den : Int)).fst) /\ small ((r.den : Int) * (fracR (r.den : Int) (s.den : Int)).snd) /\ (0 : Int) < (r.den : Int) * (fracR (r.den : Int) (s.den : Int)).snd) /\ True) /\ True /\ (True /\ True) /\ (((fracR (r.num * (fracR (r.den : Int) (s.den : Int)).snd + s.num * (fracR (r.den : Int) (s.den : Int)).fst) ((r.den : Int) * (fracR (r.den : Int) (s.den : Int)).snd)).fst = (r + s).num /\ (fracR (r.num * (fracR (r.den : Int) (s.den : Int)).snd + s.num * (fracR (r.den : Int) (s.den : Int)).fst) ((r.den : Int) * (fracR (r.den : Int) (s.den : Int)).snd)).snd = (↑(r + s).den : Int) /\ True) /\ True) /\ True) (by kernel_rfl) ?_
 simp only [true_and, and_true]
 obtain ⟨g, p, q, e0, hg, ep, eq, hp, hq, h1, h2, h3, h4, h5, h6, h7, h8, h9, h10, h11, h12, h13, hs, hs'⟩ := add_facts h
 have hf : fracR r.den s.den = (p, q) := by unfold fracR; rw [e0, ep, eq]
 have := s.den_pos
 rw [hf]
 simp only
 rw [fracR_eq h13, hs']
 exact ⟨⟨h8, h9, by omega⟩, inR_of_small h1, inR_of_small h2, inR_of_small h3, inR_of_small h12, ⟨h3, h12, h13⟩, rfl, rfl⟩
def e82 : Entry Tryd.prog gl := entry2 82 ⟨Tryd.f82, by kernel_rfl, by kernel_rfl, by kernel_rfl⟩ FR FR (fun x y => good x /\ good y /\ addOk (rat x) (rat y)) true (fun x y => [ofD FR (qp (rat x + rat y))]) (fun _ _ => []) (fun x y h => by have := call82 _ _ h.2.2; rwa [h.1, h.2.1] at this)
theorem call81 (r s : Rat) (h : mulOk r s) : GCall Tryd.prog gl 81 true [ofD FR (qp r), ofD FR (qp s)] [] [ofD FR (qp (r * s))] [] := by
 refine gcall_of (X := (Xd [e74] (drOf [(1, 12)]))) ((Xd_ok _ _)) (f := 81) (fn := Tryd.f81) (c := bodyOf Tryd.f81) (by kernel_rfl) (by kernel_rfl) (view := false) (rvs := [.cell 4 106]) (by kernel_rfl) (H := fun _ => none) 80 (by kernel_rfl) ?_
 refine of_eq (q := True /\ True /\ True /\ True /\ True /\ True /\ True /\ (small r.num /\ small (s.den : Int) /\ (0 : Int) < (s.den : Int)) /\ True /\ True /\ True /\ True /\ (small s.num /\ small (r.den : Int) /\ (0 : Int) < (r.den : Int)) /\ True /\ True /\ True /\ True /\ True /\ True /\ True /\ True /\ inR .i64 ((fracR r.num (s.den : Int)).fst * (fracR s.num (r.den : Int)).fst) /\ True /\ True /\ True /\ True /\ inR .i64 ((fracR r.num (s.den : Int)).snd * (fracR s.num (r.den : Int)).snd) /\ True /\ True /\ (True /\ True) /\ (((fracR r.num (s.den : Int)).fst * (fracR s.num (r.den : Int)).fst = (r * s).num /\ (fracR r.num (s.den : Int)).snd * (fracR s.num (r.den : Int)).snd = (↑(r * s).den : Int) /\ True) /\ True) /\ True) (by kernel_rfl) ?_
 simp only [true_and, and_true]
 obtain ⟨g, k, e1, e2, hg, hk, h1, h2, h3, h4⟩ := mul_facts h.2.2
 have hr := r.den_pos
 have hs := s.den_pos
 have f1 : fracR r.num s.den = (r.num.tdiv g, (s.den : Int).tdiv g) := by unfold fracR; rw [e1]
 have f2 : fracR s.num r.den = (s.num.tdiv k, (r.den : Int).tdiv k) := by unfold fracR; rw [e2]
 rw [f1, f2]
 simp only
 rw [h1, Int.mul_comm ((s.den : Int).tdiv g), h2]
 exact ⟨⟨h.1.1, h.2.1.2, by omega⟩, ⟨h.2.1.1, h.1.2, by omega⟩, inR_of_small h3, inR_of_small h4, rfl, rfl⟩
def e81 : Entry Tryd.prog gl := entry2 81 ⟨Tryd.f81, by kernel_rfl, by kernel_rfl, by kernel_rfl⟩ FR FR (fun x y => good x /\ good y /\ mulOk (rat x) (rat y)) true (fun x y => [ofD FR (qp (rat x * rat y))]) (fun _ _ => []) (fun x y h => by have := call81 _ _ h.2.2; rwa [h.1, h.2.1] at this)
theorem call76 (x : Int × Int) (_ : True) : GCall Tryd.prog gl 76 true [ofD FR x] [] [ofD Q2 x] [] := by
 refine gcall_of (X := X []) (X_ok []) (f := 76) (fn := Tryd.f76) (c := bodyOf Tryd.f76) (by kernel_rfl) (by kernel_rfl) (view := false) (rvs := [.cell 2 48]) (by kernel_rfl) (H := fun _ => none) 80 (by kernel_rfl) ?_
 refine of_eq (q := True /\ True /\ True /\ True /\ True /\ True /\ True /\ True /\ (True /\ True) /\ ([x.fst, x.snd] = [x.fst, x.snd] /\ True) /\ True) (by kernel_rfl) ?_
 simp only [and_true]
def e76 : Entry Tryd.prog gl := entry1 76 ⟨Tryd.f76, by kernel_rfl, by kernel_rfl, by kernel_rfl⟩ FR (fun _ => True) true (fun x => [ofD Q2 x]) (fun _ => []) (call76)
noncomputable def L58_0 : Code := lp (bodyOf Tryd.f58) 0
def sz58 (l : List (Int × Int)) (_ : Unit) : St := ⟨.dead :: .dead :: .dead :: .vv (.slice none 0 0) :: .dead :: .dead :: .sl FR l :: .int .i64 l.length :: .int .i64 0 :: dd 10, []⟩
def st58 (l : List (Int × Int)) (k : Nat) : St := ⟨.dead :: .dead :: .dead :: .own 0 0 :: .dead :: .dead :: .sl FR l :: .int .i64 l.length :: .int .i64 k :: dd 10, [.sc 0 48 Q2 (l.take k)]⟩
def fm58 (l : List (Int × Int)) : List Fam := [⟨Unit, fun _ => True, sz58 l, fun _ => l.length + 1, fun _ _ => none⟩, ⟨Nat, fun k => k <= l.length, st58 l, fun k => l.length - k, fun _ _ => none⟩]
def ex58 (l : List (Int × Int)) : List (List Nat × Ex) := [([3], ⟨0, Unit, fun _ => l = [], fun _ => ⟨.dead :: .dead :: .dead :: .vv (.slice none 0 0) :: dd 15, []⟩⟩), ([3], ⟨0, Unit, fun _ => True, fun _ => ⟨.dead :: .dead :: .dead :: .own 0 0 :: dd 15, [.sc 0 48 Q2 l]⟩⟩)]
noncomputable def H58 (l : List (Int × Int)) : Nat -> Option Hint := fun _ => some ⟨chks 0 [3, 6, 7, 8] (fm58 l), (ex58 l).map (·.2)⟩
theorem loop58 (l : List (Int × Int)) (hl : l.length < 1000000) (R : Exit -> St -> Prop) : LoopOK (X [e76]) L58_0 ⟨chks 0 [3, 6, 7, 8] (fm58 l), (ex58 l).map (·.2)⟩ R := by
 refine loop_fams (X_ok [e76]) [3, 6, 7, 8] (fm58 l) (ex58 l) 80 ⟨fun _ _ => ?_, fun k hk => ?_, trivial⟩
 · refine of_eq (q := (fun (e : Int) => (fun (d : Nat) => (fun (c : Prop) => (fun (b : Int) => (fun (a : Int × Int) => c /\ (e < b -> idxPre e l.length /\ c /\ c /\ c /\ c /\ c /\ (c /\ c) /\ c /\ sumPre (0 : Nat) [(a.fst, a.snd)].length (nat_lit 16) /\ c /\ inR .i64 (1 : Int) /\ c /\ ((∃ (y : Unit), (c /\ d < d) /\ (False /\ l = l /\ b = b /\ (1 : Int) = e /\ c) /\ c) ∨ ∃ (y : Nat), (y <= l.length /\ l.length - y < d) /\ (c /\ l = l /\ b = b /\ (1 : Int) = (y : Int) /\ c) /\ [(a.fst, a.snd)] = List.take y l /\ c)) /\ (¬e < b -> (∃ (y : Unit), l = [] /\ (c /\ c) /\ c) ∨ ∃ (y : Unit), c /\ (False /\ c) /\ False)) (l.getD (0 : Nat) (e, e))) ((l.length : Int))) (True)) (l.length + 1)) ((0 : Int))) (by kernel_rfl) ?_
   simp only [zz]
   refine ⟨fun h => ⟨by unfold idxPre; omega, by unfold sumPre; simp, by simp only [inR]; omega, 1, by omega, by simp, ?_⟩, fun h => List.length_eq_zero_iff.mp (by omega)⟩
   rw [take_getD (d := (0, 0)) (by omega)]; try rfl
 · refine of_eq (q := (fun (e : Nat) => (fun (d : Int) => (fun (c : Prop) => (fun (b : Int × Int) => (fun (a : Int) => c /\ (d < a -> idxPre d l.length /\ c /\ c /\ c /\ c /\ c /\ (c /\ c) /\ c /\ sumPre (List.take k l).length [(b.fst, b.snd)].length (nat_lit 16) /\ c /\ inR .i64 (d + 1) /\ c /\ ((∃ (y : Unit), (c /\ e + 1 < e - k) /\ (False /\ l = l /\ a = a /\ d + 1 = 0 /\ c) /\ c) ∨ ∃ (y : Nat), (y <= e /\ e - y < e - k) /\ (c /\ l = l /\ a = a /\ d + 1 = (y : Int) /\ c) /\ List.take k l ++ [(b.fst, b.snd)] = List.take y l /\ c)) /\ (¬d < a -> (∃ (y : Unit), l = [] /\ (False /\ c) /\ c) ∨ ∃ (y : Unit), c /\ (c /\ c) /\ List.take k l = l /\ c)) ((e : Int))) (l.getD k (0, 0))) (True)) ((k : Int))) (l.length)) (by kernel_rfl) ?_
   simp only [zz]
   refine ⟨fun h => ⟨idx_nat (by omega), by unfold sumPre; simp; omega, by simp only [inR]; omega, k + 1, by omega, by simp, ?_⟩, fun h => List.take_of_length_le (by omega)⟩
   rw [take_getD (d := (0, 0)) (by omega)]; try rfl
theorem call58 (l : List (Int × Int)) (hl : l.length < 1000000) : GCall Tryd.prog gl 58 false [.sl FR l] [] [.sl Q2 l] [] := by
 refine gcall_of (X := X [e76]) (X_ok [e76]) (f := 58) (fn := Tryd.f58) (c := bodyOf Tryd.f58) (by kernel_rfl) (by kernel_rfl) (view := true) (rvs := [.tmp 2]) (by kernel_rfl) (H := (H58 l)) 80 (by kernel_rfl) ?_
 have hL := loop58 l hl
 refine of_eq (q := (fun (b : Prop) => (fun (a : Prop) => a /\ a /\ a /\ a /\ a /\ LoopOK (X [e76]) L58_0 { J := chks (0 : Nat) [(3 : Nat), (6 : Nat), (7 : Nat), (8 : Nat)] (fm58 l), exits := List.map (fun (x : List Nat × Ex) => x.snd) (ex58 l) } (RetR (X [e76]) false true [ResultVar.tmp (2 : Tmp)] [AV.sl Q2 l] []) /\ ((∃ (y : Unit), a /\ (a /\ l = l /\ b /\ (0 : Int) = 0 /\ a) /\ a) ∨ ∃ (y : Nat), y <= l.length /\ (False /\ l = l /\ b /\ (0 : Int) = (y : Int) /\ a) /\ False) /\ (∀ (y : Unit), l = [] -> a /\ a /\ a /\ (([] : List (Int × Int)) = l /\ a) /\ a) /\ (∀ (y : Unit), a -> a /\ a /\ a /\ (l = l /\ a) /\ a) /\ a) (True)) ((l.length : Int) = (l.length : Int))) (by kernel_rfl) ?_
 simp only [zz]
 exact ⟨hL _, fun _ h => h.symm, fun _ _ => trivial⟩
def e58 : Entry Tryd.prog gl := entry1 58 ⟨Tryd.f58, by kernel_rfl, by kernel_rfl, by kernel_rfl⟩ SF (fun l => l.length < 1000000) false (fun l => [.sl Q2 l]) (fun _ => []) (call58)
end Go.Am.Bern

/- Bern: the program's small functions. -/
namespace Go.Am.Bern
open Go Go.Am Go.Proofs
noncomputable def L75_0 : Code := lp (bodyOf Tryd.f75) 0
def st75 (p : List Int) (x : Rat) (i : Nat) : St := ⟨.sl I64 p :: .dead :: .dead :: .ptr 0 0 [] :: .ptr 1 0 [] :: .ptr 2 0 [] :: .int .i64 ((i : Int) - 1) :: dd 18, [.bx (ofD FR (qp x)), .bx (ofD FR (0, 0)), .bx (ofD FR (qp (hval x (p.drop i))))]⟩
def ex75 (p : List Int) (x : Rat) : List (List Nat × Ex) := [([4, 5], ⟨0, Unit, fun _ => True, fun _ => ⟨.dead :: .dead :: .dead :: .dead :: .ptr 0 0 [] :: .ptr 1 0 [] :: dd 19, [.bx (ofD FR (0, 0)), .bx (ofD FR (qp (hval x p)))]⟩⟩)]
noncomputable def H75 (p : List Int) (x : Rat) : Nat -> Option Hint := fun _ => some ⟨chk 0 [0, 3, 4, 5, 6] (inv50 p) (st75 p x), (ex75 p x).map (·.2)⟩
theorem loop75 (p : List Int) (x : Rat) (hx : part 64 x) (hp : coefs p) (hl : p.length <= 7) (R : Exit -> St -> Prop) : LoopOK (X [e82, e81]) L75_0 ⟨chk 0 [0, 3, 4, 5, 6] (inv50 p) (st75 p x), (ex75 p x).map (·.2)⟩ R := by
 refine loop_ok (X_ok [e82, e81]) (H := fun _ _ => none) [0, 3, 4, 5, 6] (inv50 p) (st75 p x) (fun i => i) (ex75 p x) 80 fun i hi => ?_
 refine of_eq (q := (fun (k : Int) => (fun (h : Int) => (fun (g : Prop) => (fun (d : Int) => (fun (e : Int × Int) => (fun (c : Prop) => (fun (b : Rat) => (fun (j : Int) => (fun (a : Rat) => (fun (f : Rat) => g /\ g /\ ((0 : Int) <= d -> g /\ g /\ (good (b.num, j) /\ good (x.num, h) /\ mulOk (rat (b.num, j)) (rat (x.num, h))) /\ g /\ g /\ idxPre d p.length /\ g /\ g /\ (good (a.num, (a.den : Int)) /\ good e /\ addOk f (rat e)) /\ g /\ g /\ inR .i64 (d - k) /\ g /\ ∃ (y : Nat), (inv50 p y /\ y < i) /\ (p = p /\ g /\ g /\ g /\ d - k = (y : Int) - k /\ g) /\ (x.num = x.num /\ h = h /\ g) /\ (c /\ c /\ g) /\ ((f + rat e).num = (hval x (List.drop y p)).num /\ (↑(f + rat e).den : Int) = (↑(hval x (List.drop y p)).den : Int) /\ g) /\ g) /\ (¬(0 : Int) <= d -> ∃ (y : Unit), g /\ (g /\ g /\ g) /\ (c /\ c /\ g) /\ (b.num = (hval x p).num /\ j = (↑(hval x p).den : Int) /\ g) /\ g)) (rat (a.num, (a.den : Int)))) (rat (b.num, j) * rat (x.num, h))) ((b.den : Int))) (hval x (List.drop i p))) ((0 : Int) = 0)) ((p.getD d.toNat (0 : Int), k))) ((i : Int) - k)) (True)) ((x.den : Int))) ((1 : Int))) (by kernel_rfl) ?_
 simp only [zz]
 unfold inv50 at *
 refine ⟨fun h1 => ?_, fun h1 => ⟨by rw [show i = 0 by omega]; rfl, by rw [show i = 0 by omega]; rfl⟩⟩
 obtain ⟨i, rfl⟩ : ∃ j, i = j + 1 := ⟨i - 1, by omega⟩
 have e : (((i + 1 : Nat) : Int) - 1) = (i : Int) := by omega
 rw [e]
 simp only [Int.toNat_natCast]
 have hd : p.drop i = p.getD i 0 :: p.drop (i + 1) := drop_getD (by omega)
 have hc : coefs (p.getD i 0 :: p.drop (i + 1)) := by rw [<- hd]; exact fun y hy => hp y (List.mem_of_mem_drop hy)
 have hk := hval_ok hx hc (by simp; omega)
 refine ⟨⟨good_nd _, good_nd _, hk.1⟩, idx_nat (by omega), ⟨good_nd _, good_int _, hk.2⟩, by simp only [inR]; omega, i, ⟨by omega, by omega⟩, ?_⟩
 rw [hd]; exact ⟨rfl, rfl, rfl⟩
theorem call75 (p : List Int) (x : Rat) (h : isPoly p /\ part 64 x) : GCall Tryd.prog gl 75 true [.sl I64 p, ofD FR (qp x)] [] [ofD FR (qp (hval x p))] [] := by
 refine gcall_of (X := X [e82,e81]) (X_ok [e82,e81]) (f := 75) (fn := Tryd.f75) (c := bodyOf Tryd.f75) (by kernel_rfl) (by kernel_rfl) (view := false) (rvs := [.cell 4 106]) (by kernel_rfl) (H := (H75 p x)) 80 (by kernel_rfl) ?_
 have hL := loop75 p x h.2 h.1.2.2 h.1.2.1
 refine of_eq (q := (fun (c : Int) => (fun (b : Prop) => (fun (a : Rat) => b /\ b /\ b /\ b /\ b /\ b /\ b /\ inR .i64 c /\ b /\ LoopOK (X [e82, e81]) L75_0 { J := chk (0 : Nat) [(0 : Nat), (3 : Nat), (4 : Nat), (5 : Nat), (6 : Nat)] (inv50 p) (st75 p x), exits := List.map (fun (x : List Nat × Ex) => x.snd) (ex75 p x) } (RetR (X [e82, e81]) true false [ResultVar.cell (4 : Tmp) (106 : TypeId)] [ofD FR (qp a)] []) /\ (∃ (y : Nat), inv50 p y /\ (p = p /\ b /\ b /\ b /\ c = (y : Int) - 1 /\ b) /\ (x.num = x.num /\ (x.den : Int) = (x.den : Int) /\ b) /\ ((0 : Int) = 0 /\ (0 : Int) = 0 /\ b) /\ ((0 : Int) = (hval x (List.drop y p)).num /\ (1 : Int) = (↑(hval x (List.drop y p)).den : Int) /\ b) /\ b) /\ (∀ (y : Unit), b -> b /\ b /\ (b /\ b) /\ ((a.num = a.num /\ (a.den : Int) = (a.den : Int) /\ b) /\ b) /\ b) /\ b) (hval x p)) (True)) ((p.length : Int) - 1)) (by kernel_rfl) ?_
 simp only [zz]
 have := h.1.2.1
 exact ⟨by simp only [inR]; omega, hL _, ⟨p.length, Nat.le_refl _, by simp [hval], by simp [hval]⟩, fun _ _ => trivial⟩
def e75 : Entry Tryd.prog gl := entry2 75 ⟨Tryd.f75, by kernel_rfl, by kernel_rfl, by kernel_rfl⟩ SI FR (fun p x => isPoly p /\ good x /\ part 64 (rat x)) true (fun p x => [ofD FR (qp (hval (rat x) p))]) (fun _ _ => []) (fun p x h => by have := call75 p (rat x) ⟨h.1, h.2.2⟩; rwa [h.2.1] at this)
def minL (l : List Int) : Int := fold1 minI l
def maxL (l : List Int) : Int := fold1 maxI l
noncomputable def L89_0 : Code := lp (bodyOf Tryd.f89) 0
noncomputable def L90_0 : Code := lp (bodyOf Tryd.f90) 0
def st89 (l : List Int) (k : Nat) : St := ⟨.sl I64 l :: .dead :: .dead :: .int .i64 (minL (l.take k)) :: .int .i64 k :: dd 20, []⟩
def inv89 (l : List Int) (k : Nat) : Prop := 1 <= k /\ k <= l.length
def ex89 (m : Int) : List (List Nat × Ex) := [([3], ⟨0, Unit, fun _ => True, fun _ => ⟨.dead :: .dead :: .dead :: .int .i64 m :: dd 21, []⟩⟩)]
noncomputable def H89 (l : List Int) : Nat -> Option Hint := fun _ => some ⟨chk 0 [0, 3, 4] (inv89 l) (st89 l), (ex89 (minL l)).map (·.2)⟩
theorem loop89 (l : List Int) (hl : l.length < 1000000) (R : Exit -> St -> Prop) : LoopOK (X []) L89_0 ⟨chk 0 [0, 3, 4] (inv89 l) (st89 l), (ex89 (minL l)).map (·.2)⟩ R := by
 refine loop_ok (X_ok []) (H := fun _ _ => none) [0, 3, 4] (inv89 l) (st89 l) (fun k => l.length - k) (ex89 (minL l)) 80 fun k hk => ?_
 refine of_eq (q := (fun (b : Prop) => (fun (a : Int) => b /\ b /\ b /\ b /\ (a < (l.length : Int) -> b /\ b /\ b /\ idxPre a l.length /\ b /\ b /\ b /\ b /\ inR .i64 (a + 1) /\ b /\ ∃ (y : Nat), (inv89 l y /\ l.length - y < l.length - k) /\ (l = l /\ minI (minL (List.take k l)) (l.getD k (0 : Int)) = minL (List.take y l) /\ a + 1 = (y : Int) /\ b) /\ b) /\ (¬a < (l.length : Int) -> ∃ (y : Unit), b /\ (minL (List.take k l) = minL l /\ b) /\ b)) ((k : Int))) (True)) (by kernel_rfl) ?_
 simp only [zz]
 unfold inv89 at *
 refine ⟨fun h => ⟨idx_nat (by omega), by simp only [inR]; omega, k + 1, by omega, ?_, by simp⟩, fun h => by rw [List.take_of_length_le (by omega)]⟩
 unfold minL; rw [fold1_take hk.1 (by omega)]
theorem call89 (l : List Int) (h : 1 <= l.length /\ l.length < 1000000) : GCall Tryd.prog gl 89 true [.sl I64 l] [] [.int .i64 (minL l)] [] := by
 refine gcall_of (X := X []) (X_ok []) (f := 89) (fn := Tryd.f89) (c := bodyOf Tryd.f89) (by kernel_rfl) (by kernel_rfl) (view := false) (rvs := [.tmp 2]) (by kernel_rfl) (H := (H89 l)) 80 (by kernel_rfl) ?_
 have hL := loop89 l h.2
 refine of_eq (q := (fun (a : Prop) => a /\ a /\ a /\ a /\ ((l.length : Int) < 1 -> False) /\ (¬(l.length : Int) < 1 -> a /\ idxPre (0 : Int) l.length /\ a /\ a /\ a /\ LoopOK (X []) L89_0 { J := chk (0 : Nat) [(0 : Nat), (3 : Nat), (4 : Nat)] (inv89 l) (st89 l), exits := List.map (fun (x : List Nat × Ex) => x.snd) (ex89 (minL l)) } (RetR (X []) true false [ResultVar.tmp (2 : Tmp)] [AV.int .i64 (minL l)] []) /\ (∃ (y : Nat), inv89 l y /\ (l = l /\ l.getD (0 : Nat) (0 : Int) = minL (List.take y l) /\ (1 : Int) = (y : Int) /\ a) /\ a) /\ (∀ (y : Unit), a -> a /\ a /\ a /\ (minL l = minL l /\ a) /\ a) /\ a)) (True)) (by kernel_rfl) ?_
 simp only [zz]
 exact ⟨fun h1 => by omega, fun _ => ⟨by unfold idxPre; omega, hL _, ⟨1, ⟨by omega, h.1⟩, by unfold minL; rw [fold1_one h.1], rfl⟩, fun _ _ => trivial⟩⟩
def e89 : Entry Tryd.prog gl := entry1 89 ⟨Tryd.f89, by kernel_rfl, by kernel_rfl, by kernel_rfl⟩ SI (fun l => 1 <= l.length /\ l.length < 1000000) true (fun l => [.int .i64 (minL l)]) (fun _ => []) (call89)
def st90 (l : List Int) (k : Nat) : St := ⟨.sl I64 l :: .dead :: .dead :: .int .i64 (maxL (l.take k)) :: .int .i64 k :: dd 20, []⟩
def inv90 (l : List Int) (k : Nat) : Prop := 1 <= k /\ k <= l.length
def ex90 (m : Int) : List (List Nat × Ex) := [([3], ⟨0, Unit, fun _ => True, fun _ => ⟨.dead :: .dead :: .dead :: .int .i64 m :: dd 21, []⟩⟩)]
noncomputable def H90 (l : List Int) : Nat -> Option Hint := fun _ => some ⟨chk 0 [0, 3, 4] (inv90 l) (st90 l), (ex90 (maxL l)).map (·.2)⟩
theorem loop90 (l : List Int) (hl : l.length < 1000000) (R : Exit -> St -> Prop) : LoopOK (X []) L90_0 ⟨chk 0 [0, 3, 4] (inv90 l) (st90 l), (ex90 (maxL l)).map (·.2)⟩ R := by
 refine loop_ok (X_ok []) (H := fun _ _ => none) [0, 3, 4] (inv90 l) (st90 l) (fun k => l.length - k) (ex90 (maxL l)) 80 fun k hk => ?_
 refine of_eq (q := (fun (b : Prop) => (fun (a : Int) => b /\ b /\ b /\ b /\ (a < (l.length : Int) -> b /\ b /\ b /\ idxPre a l.length /\ b /\ b /\ b /\ b /\ inR .i64 (a + 1) /\ b /\ ∃ (y : Nat), (inv90 l y /\ l.length - y < l.length - k) /\ (l = l /\ maxI (maxL (List.take k l)) (l.getD k (0 : Int)) = maxL (List.take y l) /\ a + 1 = (y : Int) /\ b) /\ b) /\ (¬a < (l.length : Int) -> ∃ (y : Unit), b /\ (maxL (List.take k l) = maxL l /\ b) /\ b)) ((k : Int))) (True)) (by kernel_rfl) ?_
 simp only [zz]
 unfold inv90 at *
 refine ⟨fun h => ⟨idx_nat (by omega), by simp only [inR]; omega, k + 1, by omega, ?_, by simp⟩, fun h => by rw [List.take_of_length_le (by omega)]⟩
 unfold maxL; rw [fold1_take hk.1 (by omega)]
theorem call90 (l : List Int) (h : 1 <= l.length /\ l.length < 1000000) : GCall Tryd.prog gl 90 true [.sl I64 l] [] [.int .i64 (maxL l)] [] := by
 refine gcall_of (X := X []) (X_ok []) (f := 90) (fn := Tryd.f90) (c := bodyOf Tryd.f90) (by kernel_rfl) (by kernel_rfl) (view := false) (rvs := [.tmp 2]) (by kernel_rfl) (H := (H90 l)) 80 (by kernel_rfl) ?_
 have hL := loop90 l h.2
 refine of_eq (q := (fun (a : Prop) => a /\ a /\ a /\ a /\ ((l.length : Int) < 1 -> False) /\ (¬(l.length : Int) < 1 -> a /\ idxPre (0 : Int) l.length /\ a /\ a /\ a /\ LoopOK (X []) L90_0 { J := chk (0 : Nat) [(0 : Nat), (3 : Nat), (4 : Nat)] (inv90 l) (st90 l), exits := List.map (fun (x : List Nat × Ex) => x.snd) (ex90 (maxL l)) } (RetR (X []) true false [ResultVar.tmp (2 : Tmp)] [AV.int .i64 (maxL l)] []) /\ (∃ (y : Nat), inv90 l y /\ (l = l /\ l.getD (0 : Nat) (0 : Int) = maxL (List.take y l) /\ (1 : Int) = (y : Int) /\ a) /\ a) /\ (∀ (y : Unit), a -> a /\ a /\ a /\ (maxL l = maxL l /\ a) /\ a) /\ a)) (True)) (by kernel_rfl) ?_
 simp only [zz]
 exact ⟨fun h1 => by omega, fun _ => ⟨by unfold idxPre; omega, hL _, ⟨1, ⟨by omega, h.1⟩, by unfold maxL; rw [fold1_one h.1], rfl⟩, fun _ _ => trivial⟩⟩
def e90 : Entry Tryd.prog gl := entry1 90 ⟨Tryd.f90, by kernel_rfl, by kernel_rfl, by kernel_rfl⟩ SI (fun l => 1 <= l.length /\ l.length < 1000000) true (fun l => [.int .i64 (maxL l)]) (fun _ => []) (call90)
theorem foldl_min {l : List Int} : ∀ {a : Int}, -100 <= l.foldl minI a ↔ -100 <= a /\ ∀ x ∈ l, -100 <= x := by
 induction l with
 | nil => simp
 | cons b l ih =>
   intro a
   rw [List.foldl_cons, ih]
   simp only [List.mem_cons, forall_eq_or_imp, <- and_assoc]
   refine and_congr_left fun _ => ?_
   unfold minI; split <;> omega
theorem foldl_max {l : List Int} : ∀ {a : Int}, l.foldl maxI a <= 100 ↔ a <= 100 /\ ∀ x ∈ l, x <= 100 := by
 induction l with
 | nil => simp
 | cons b l ih =>
   intro a
   rw [List.foldl_cons, ih]
   simp only [List.mem_cons, forall_eq_or_imp, <- and_assoc]
   refine and_congr_left fun _ => ?_
   unfold maxI; split <;> omega
theorem coefs_iff {l : List Int} (h : 1 <= l.length) : coefs l ↔ -100 <= minL l /\ maxL l <= 100 := by
 cases l with
 | nil => simp at h
 | cons a m =>
   simp only [minL, maxL, fold1, List.tail_cons, List.getD_cons_zero, foldl_min, foldl_max, coefs, List.mem_cons, forall_eq_or_imp]
   constructor
   · intro ⟨⟨h1, h2⟩, h3⟩; exact ⟨⟨h1, fun x hx => (h3 x hx).1⟩, h2, fun x hx => (h3 x hx).2⟩
   · intro ⟨⟨h1, h2⟩, h3, h4⟩; exact ⟨⟨h1, h3⟩, fun x hx => ⟨h2 x hx, h4 x hx⟩⟩
def errOf (p : List Int) : Int := if isPoly p then 0 else 80
theorem call56 (l : List Int) (h : l.length < 1000000) : GCall Tryd.prog gl 56 true [.sl I64 l] [] [.int .i64 (errOf l)] [] := by
 refine gcall_of (X := X [e89, e90]) (X_ok [e89, e90]) (f := 56) (fn := Tryd.f56) (c := bodyOf Tryd.f56) (by kernel_rfl) (by kernel_rfl) (view := false) (rvs := [.tmp 2]) (by kernel_rfl) (H := fun _ => none) 80 (by kernel_rfl) ?_
 refine of_eq (q := (fun (d : Int) => (fun (b : Prop) => (fun (c : Prop) => (fun (a : Prop) => b /\ b /\ b /\ b /\ b /\ (d < 1 -> b /\ b /\ b /\ b /\ b /\ a) /\ (¬d < 1 -> b /\ b /\ b /\ b /\ b /\ ((7 : Int) < d -> b /\ b /\ b /\ a) /\ (¬(7 : Int) < d -> b /\ c /\ b /\ b /\ b /\ (minL l < (-100 : Int) -> b /\ a) /\ (¬minL l < (-100 : Int) -> b /\ c /\ b /\ b /\ ((100 : Int) < maxL l -> a) /\ (¬(100 : Int) < maxL l -> b /\ b /\ ((0 : Int) = errOf l /\ b) /\ b))))) (b /\ b /\ ((80 : Int) = errOf l /\ b) /\ b)) (((1 : Nat) <= l.length /\ l.length < 1000000) /\ b)) (True)) ((l.length : Int))) (by kernel_rfl) ?_
 simp only [zz]
 have e0 : isPoly l -> errOf l = 0 := fun h => by unfold errOf; rw [if_pos h]
 have e1 : ¬ isPoly l -> errOf l = 80 := fun h => by unfold errOf; rw [if_neg h]
 refine ⟨fun h1 => (e1 fun h2 => ?_).symm, fun h1 => ⟨fun h2 => (e1 fun h3 => ?_).symm, fun h2 => ⟨⟨by omega, h⟩, fun h3 => (e1 fun h4 => ?_).symm, fun h3 => ⟨⟨by omega, h⟩, fun h4 => (e1 fun h5 => ?_).symm, fun h4 => (e0 ⟨by omega, by omega, ?_⟩).symm⟩⟩⟩⟩
 · have := h2.1; omega
 · have := h3.2.1; omega
 · have := (coefs_iff h4.1).mp h4.2.2; omega
 · have := (coefs_iff h5.1).mp h5.2.2; omega
 · rw [coefs_iff (by omega)]; omega
def e56 : Entry Tryd.prog gl := entry1 56 ⟨Tryd.f56, by kernel_rfl, by kernel_rfl, by kernel_rfl⟩ SI (fun l => l.length < 1000000) true (fun l => [.int .i64 (errOf l)]) (fun _ => []) (call56)
theorem call57 (x : Int × Int) (_ : True) : GCall Tryd.prog gl 57 true [ofD FR x] [] [.bool (decide (isPiece x))] [] := by
 refine gcall_of (X := X []) (X_ok []) (f := 57) (fn := Tryd.f57) (c := bodyOf Tryd.f57) (by kernel_rfl) (by kernel_rfl) (view := false) (rvs := [.tmp 2]) (by kernel_rfl) (H := fun _ => none) 80 (by kernel_rfl) ?_
 refine of_eq (q := (fun (d : Prop) => (fun (c : Int) => (fun (b : Prop) => (fun (a : Prop) => b /\ b /\ b /\ b /\ b /\ b /\ (d -> b /\ b /\ b /\ b /\ b /\ (x.fst <= 6 -> b /\ b /\ b /\ b /\ b /\ ((0 : Int) <= x.snd -> b /\ b /\ b /\ b /\ inR .u64 x.fst /\ ((d /\ x.fst < bitsOf .i64) /\ (-9223372036854775808 : Int) <= c /\ c <= 9223372036854775807) /\ b /\ b /\ b /\ b /\ (decide (x.snd < c) = decide (isPiece x) /\ b) /\ b) /\ (¬(0 : Int) <= x.snd -> a)) /\ (¬x.fst <= 6 -> b /\ b /\ a)) /\ (¬d -> b /\ b /\ b /\ b /\ a)) (b /\ b /\ b /\ (false = decide (isPiece x) /\ b) /\ b)) (True)) ((1 : Int) * 2 ^ Int.toNat x.fst)) ((0 : Int) <= x.fst)) (by kernel_rfl) ?_
 simp only [zz]
 unfold isPiece
 rw [Int.one_mul]
 refine ⟨fun h => ⟨fun h1 => ⟨fun h2 => ⟨by simp only [inR]; omega, ⟨⟨h, by simp only [bitsOf]; omega⟩, ?_⟩, ddd (by omega)⟩, fun h2 => dff (by omega)⟩, fun h2 => dff (by omega)⟩, fun h2 => dff (by omega)⟩
 have : (2 : Int) ^ x.1.toNat <= 2 ^ 6 := by
   have := Nat.pow_le_pow_right (show 0 < 2 by omega) (show x.1.toNat <= 6 by omega)
   exact_mod_cast this
 have : (0 : Int) < 2 ^ x.1.toNat := Int.pow_pos (by omega)
 omega
def e57 : Entry Tryd.prog gl := entry1 57 ⟨Tryd.f57, by kernel_rfl, by kernel_rfl, by kernel_rfl⟩ FR (fun _ => True) true (fun x => [.bool (decide (isPiece x))]) (fun _ => []) (call57)
noncomputable def L66_0 : Code := lp (bodyOf Tryd.f66) 0
def sz66 (l : List (Int × Int)) (_ : Unit) : St := ⟨.dead :: .dead :: .dead :: .vv (.slice none 0 0) :: .dead :: .dead :: .sl FR l :: .int .i64 l.length :: .int .i64 0 :: dd 13, []⟩
def st66 (l : List (Int × Int)) (k : Nat) : St := ⟨.dead :: .dead :: .dead :: .own 0 0 :: .dead :: .dead :: .sl FR l :: .int .i64 l.length :: .int .i64 k :: dd 13, [.sc 0 23 Q2 (l.take k)]⟩
def fm66 (l : List (Int × Int)) : List Fam := [⟨Unit, fun _ => True, sz66 l, fun _ => l.length + 1, fun _ _ => none⟩, ⟨Nat, fun k => k <= l.length, st66 l, fun k => l.length - k, fun _ _ => none⟩]
def ex66 (l : List (Int × Int)) : List (List Nat × Ex) := [([3], ⟨0, Unit, fun _ => l = [], fun _ => ⟨.dead :: .dead :: .dead :: .vv (.slice none 0 0) :: dd 18, []⟩⟩), ([3], ⟨0, Unit, fun _ => True, fun _ => ⟨.dead :: .dead :: .dead :: .own 0 0 :: dd 18, [.sc 0 23 Q2 l]⟩⟩)]
noncomputable def H66 (l : List (Int × Int)) : Nat -> Option Hint := fun _ => some ⟨chks 0 [3, 6, 7, 8] (fm66 l), (ex66 l).map (·.2)⟩
theorem loop66 (l : List (Int × Int)) (hl : l.length < 1000000) (R : Exit -> St -> Prop) : LoopOK (X []) L66_0 ⟨chks 0 [3, 6, 7, 8] (fm66 l), (ex66 l).map (·.2)⟩ R := by
 refine loop_fams (X_ok []) [3, 6, 7, 8] (fm66 l) (ex66 l) 80 ⟨fun _ _ => ?_, fun k hk => ?_, trivial⟩
 · refine of_eq (q := (fun (e : Int) => (fun (d : Nat) => (fun (c : Prop) => (fun (b : Int) => (fun (a : Int × Int) => c /\ (e < b -> idxPre e l.length /\ c /\ c /\ c /\ c /\ c /\ c /\ c /\ c /\ c /\ c /\ sumPre (0 : Nat) [(a.fst, a.snd)].length (nat_lit 16) /\ c /\ inR .i64 (1 : Int) /\ c /\ ((∃ (y : Unit), (c /\ d < d) /\ (False /\ l = l /\ b = b /\ (1 : Int) = e /\ c) /\ c) ∨ ∃ (y : Nat), (y <= l.length /\ l.length - y < d) /\ (c /\ l = l /\ b = b /\ (1 : Int) = (y : Int) /\ c) /\ [(a.fst, a.snd)] = List.take y l /\ c)) /\ (¬e < b -> (∃ (y : Unit), l = [] /\ (c /\ c) /\ c) ∨ ∃ (y : Unit), c /\ (False /\ c) /\ False)) (l.getD (0 : Nat) (e, e))) ((l.length : Int))) (True)) (l.length + 1)) ((0 : Int))) (by kernel_rfl) ?_
   simp only [zz]
   refine ⟨fun h => ⟨by unfold idxPre; omega, by unfold sumPre; simp, by simp only [inR]; omega, 1, by omega, by simp, ?_⟩, fun h => List.length_eq_zero_iff.mp (by omega)⟩
   rw [take_getD (d := (0, 0)) (by omega)]; try rfl
 · refine of_eq (q := (fun (e : Nat) => (fun (d : Int) => (fun (c : Prop) => (fun (b : Int × Int) => (fun (a : Int) => c /\ (d < a -> idxPre d l.length /\ c /\ c /\ c /\ c /\ c /\ c /\ c /\ c /\ c /\ c /\ sumPre (List.take k l).length [(b.fst, b.snd)].length (nat_lit 16) /\ c /\ inR .i64 (d + 1) /\ c /\ ((∃ (y : Unit), (c /\ e + 1 < e - k) /\ (False /\ l = l /\ a = a /\ d + 1 = 0 /\ c) /\ c) ∨ ∃ (y : Nat), (y <= e /\ e - y < e - k) /\ (c /\ l = l /\ a = a /\ d + 1 = (y : Int) /\ c) /\ List.take k l ++ [(b.fst, b.snd)] = List.take y l /\ c)) /\ (¬d < a -> (∃ (y : Unit), l = [] /\ (False /\ c) /\ c) ∨ ∃ (y : Unit), c /\ (c /\ c) /\ List.take k l = l /\ c)) ((e : Int))) (l.getD k (0, 0))) (True)) ((k : Int))) (l.length)) (by kernel_rfl) ?_
   simp only [zz]
   refine ⟨fun h => ⟨idx_nat (by omega), by unfold sumPre; simp; omega, by simp only [inR]; omega, k + 1, by omega, by simp, ?_⟩, fun h => List.take_of_length_le (by omega)⟩
   rw [take_getD (d := (0, 0)) (by omega)]; try rfl
theorem call66 (l : List (Int × Int)) (hl : l.length < 1000000) : GCall Tryd.prog gl 66 false [.sl FR l] [] [.sl Q2 l] [] := by
 refine gcall_of (X := X []) (X_ok []) (f := 66) (fn := Tryd.f66) (c := bodyOf Tryd.f66) (by kernel_rfl) (by kernel_rfl) (view := true) (rvs := [.tmp 2]) (by kernel_rfl) (H := (H66 l)) 80 (by kernel_rfl) ?_
 have hL := loop66 l hl
 refine of_eq (q := (fun (b : Prop) => (fun (a : Prop) => a /\ a /\ a /\ a /\ a /\ LoopOK (X []) L66_0 { J := chks (0 : Nat) [(3 : Nat), (6 : Nat), (7 : Nat), (8 : Nat)] (fm66 l), exits := List.map (fun (x : List Nat × Ex) => x.snd) (ex66 l) } (RetR (X []) false true [ResultVar.tmp (2 : Tmp)] [AV.sl Q2 l] []) /\ ((∃ (y : Unit), a /\ (a /\ l = l /\ b /\ (0 : Int) = 0 /\ a) /\ a) ∨ ∃ (y : Nat), y <= l.length /\ (False /\ l = l /\ b /\ (0 : Int) = (y : Int) /\ a) /\ False) /\ (∀ (y : Unit), l = [] -> a /\ a /\ a /\ (([] : List (Int × Int)) = l /\ a) /\ a) /\ (∀ (y : Unit), a -> a /\ a /\ a /\ (l = l /\ a) /\ a) /\ a) (True)) ((l.length : Int) = (l.length : Int))) (by kernel_rfl) ?_
 simp only [zz]
 exact ⟨hL _, fun _ h => h.symm, fun _ _ => trivial⟩
def e66 : Entry Tryd.prog gl := entry1 66 ⟨Tryd.f66, by kernel_rfl, by kernel_rfl, by kernel_rfl⟩ SF (fun l => l.length < 1000000) false (fun l => [.sl Q2 l]) (fun _ => []) (call66)
def brow (n : Nat) : List Int := (List.range 7).map fun k => ch n k
def brk (n k : Nat) : List Int := (List.range 7).map fun j => if k <= j then ch (n + 1) j else ch n j
noncomputable def L77_0 : Code := lp (bodyOf Tryd.f77) 0
noncomputable def L77_2 : Code := lp (bodyOf Tryd.f77) 2
def st77 (n k : Nat) : St := ⟨.dead :: .dead :: .ptr 0 0 [] :: .ptr 1 0 [] :: .dead :: .dead :: .int .i64 n :: .int .i64 k :: dd 16, [.bx (.ar I64 7 (List.replicate 7 0)), .bx (.ar I64 7 (brow k))]⟩
def ex77 (n : Nat) : List (List Nat × Ex) := [([2, 3], ⟨0, Unit, fun _ => True, fun _ => ⟨.dead :: .dead :: .ptr 0 0 [] :: .ptr 1 0 [] :: dd 20, [.bx (.ar I64 7 (List.replicate 7 0)), .bx (.ar I64 7 (brow n))]⟩⟩)]
def sj77 (n k : Nat) (i : Nat) : St := ⟨.dead :: .dead :: .ptr 0 0 [] :: .ptr 1 0 [] :: .int .i64 i :: .dead :: .int .i64 n :: .int .i64 k :: dd 16, [.bx (.ar I64 7 (List.replicate 7 0)), .bx (.ar I64 7 (brk k (i + 1)))]⟩
def ej77 (n k : Nat) : List (List Nat × Ex) := [([2, 3, 6, 7], ⟨2, Unit, fun _ => True, fun _ => ⟨.dead :: .dead :: .ptr 0 0 [] :: .ptr 1 0 [] :: .dead :: .dead :: .int .i64 n :: .int .i64 k :: dd 16, [.bx (.ar I64 7 (List.replicate 7 0)), .bx (.ar I64 7 (brow (k + 1)))]⟩⟩)]
noncomputable def H77 (n k : Nat) : Nat -> Option Hint
 | 0 => some ⟨chk 0 [2, 3, 6, 7] (fun i => i <= n) (st77 n), (ex77 n).map (·.2)⟩
 | 2 => some ⟨chk 0 [2, 3, 4, 6, 7] (fun i => i <= 6) (sj77 n k), (ej77 n k).map (·.2)⟩
 | _ => none
theorem brk_step0 : ∀ k : Fin 7, ∀ i : Fin 7, 0 < i.val -> (brk k (i + 1)).set i ((brk k (i + 1)).getD i 0 + (brk k (i + 1)).getD (i - 1) 0) = brk k i /\ -1000 <= (brk k (i + 1)).getD i 0 + (brk k (i + 1)).getD (i - 1) 0 /\ (brk k (i + 1)).getD i 0 + (brk k (i + 1)).getD (i - 1) 0 <= 1000 := by decide
theorem brk_step {k i : Nat} (hk : k <= 6) (hi : i <= 6) (h : 0 < i) : (brk k (i + 1)).set i ((brk k (i + 1)).getD i 0 + (brk k (i + 1)).getD (i - 1) 0) = brk k i /\ -1000 <= (brk k (i + 1)).getD i 0 + (brk k (i + 1)).getD (i - 1) 0 /\ (brk k (i + 1)).getD i 0 + (brk k (i + 1)).getD (i - 1) 0 <= 1000 :=
 brk_step0 ⟨k, by omega⟩ ⟨i, by omega⟩ h
theorem brk_last0 : ∀ k : Fin 7, brk k 1 = brow (k + 1) /\ brk k 7 = brow k := by decide
theorem brk_last {k : Nat} (h : k <= 6) : brk k 1 = brow (k + 1) /\ brk k 7 = brow k := brk_last0 ⟨k, by omega⟩
theorem loop77_2 (n k : Nat) (hk : k <= 6) (R : Exit -> St -> Prop) : LoopOK (X []) L77_2 ⟨chk 0 [2, 3, 4, 6, 7] (fun i => i <= 6) (sj77 n k), (ej77 n k).map (·.2)⟩ R := by
 refine loop_ok (X_ok []) (H := fun _ _ => none) [2, 3, 4, 6, 7] (fun i => i <= 6) (sj77 n k) (fun i => i) (ej77 n k) 80 fun i hi => ?_
 refine of_eq (q := (fun (g : Prop) => (fun (f : Int) => (fun (d : Prop) => (fun (c : Int) => (fun (b : List Int) => (fun (h : Int) => (fun (a : Int) => (fun (e : List Int) => g /\ g /\ ((0 : Int) < f -> g /\ idxPre f (7 : Nat) /\ g /\ g /\ inR .i64 c /\ idxPre c (7 : Nat) /\ g /\ inR .i64 h /\ idxPre f (7 : Nat) /\ g /\ g /\ inR .i64 c /\ g /\ ∃ (y : Nat), (y <= 6 /\ y < i) /\ (g /\ g /\ c = (y : Int) /\ d) /\ e = e /\ b.set i h = brk k (y + 1) /\ g) /\ (¬(0 : Int) < f -> ∃ (y : Unit), g /\ (g /\ g /\ d) /\ e = e /\ b = brow (k + 1) /\ g)) ([a, a, a, a, a, a, a])) ((0 : (fun (x : Ty) => Ty.brecOn x Ty.D._f) I64))) (b.getD i (0 : Int) + b.getD c.toNat (0 : Int))) (brk k (i + 1))) (f - 1)) ((n : Int) = (n : Int) /\ (k : Int) = (k : Int) /\ g)) ((i : Int))) (True)) (by kernel_rfl) ?_
 simp only [zz]
 refine ⟨fun h => ?_, fun h => ?_⟩
 · obtain ⟨j, rfl⟩ : ∃ j, i = j + 1 := ⟨i - 1, by omega⟩
   have e : ((j + 1 : Nat) : Int) - 1 = (j : Int) := by omega
   have hs := brk_step hk hi (by omega)
   rw [e, Int.toNat_natCast]
   simp only [Nat.add_sub_cancel] at hs
   exact ⟨idx_nat (by omega), by simp only [inR]; omega, idx_nat (by omega), by simp only [inR]; omega, idx_nat (by omega), by simp only [inR]; omega, j, by omega, rfl, hs.1⟩
 · rw [show i = 0 by omega]; exact (brk_last hk).1
theorem loop77 (n : Nat) (hn : n <= 6) (R : Exit -> St -> Prop) : LoopOK (X []) L77_0 ⟨chk 0 [2, 3, 6, 7] (fun i => i <= n) (st77 n), (ex77 n).map (·.2)⟩ R := by
 refine loop_ok (X_ok []) (H := fun k i => H77 n k i) [2, 3, 6, 7] (fun i => i <= n) (st77 n) (fun i => n - i) (ex77 n) 80 fun k hk => ?_
 have hk' : k <= n := hk
 have hL := loop77_2 n k (by omega)
 refine of_eq (q := (fun (e : Prop) => (fun (d : Int) => (fun (c : Int) => (fun (a : Int) => (fun (b : List Int) => e /\ (d < c -> e /\ LoopOK (X []) L77_2 { J := chk (0 : Nat) [(2 : Nat), (3 : Nat), (4 : Nat), (6 : Nat), (7 : Nat)] (fun (i : Nat) => i <= 6) (sj77 n k), exits := List.map (fun (x : List Nat × Ex) => x.snd) (ej77 n k) } (bodyR (X []).m0 (ex77 n) R) /\ (∃ (y : Nat), y <= 6 /\ (e /\ e /\ (6 : Int) = (y : Int) /\ c = c /\ d = d /\ e) /\ b = b /\ brow k = brk k (y + 1) /\ e) /\ (∀ (y : Unit), e -> inR .i64 (d + 1) /\ e /\ ∃ (y : Nat), (y <= n /\ n - y < n - k) /\ (e /\ e /\ c = c /\ d + 1 = (y : Int) /\ e) /\ b = b /\ brow (k + 1) = brow y /\ e) /\ e) /\ (¬d < c -> ∃ (y : Unit), e /\ (e /\ e /\ e) /\ b = b /\ brow k = brow n /\ e)) ([a, a, a, a, a, a, a])) ((0 : (fun (x : Ty) => Ty.brecOn x Ty.D._f) I64))) ((n : Int))) ((k : Int))) (True)) (by kernel_rfl) ?_
 simp only [zz]
 refine ⟨fun h => ⟨hL _, ⟨6, by omega, rfl, (brk_last (by omega)).2.symm⟩, fun _ _ => ⟨by simp only [inR]; omega, k + 1, ⟨by omega, by omega⟩, by simp, rfl⟩⟩, fun h => by rw [show k = n by omega]⟩
theorem call77 (n : Nat) (hn : n <= 6) : GCall Tryd.prog gl 77 true [.int .i64 n] [] [.ar I64 7 (brow n)] [] := by
 refine gcall_of (X := X []) (X_ok []) (f := 77) (fn := Tryd.f77) (c := bodyOf Tryd.f77) (by kernel_rfl) (by kernel_rfl) (view := false) (rvs := [.cell 2 111]) (by kernel_rfl) (H := (H77 n 0)) 80 (by kernel_rfl) ?_
 have hL := loop77 n hn
 refine of_eq (q := (fun (c : Prop) => (fun (b : Int) => (fun (a : Int) => c /\ c /\ c /\ c /\ c /\ c /\ LoopOK (X []) L77_0 { J := chk (0 : Nat) [(2 : Nat), (3 : Nat), (6 : Nat), (7 : Nat)] (fun (i : Nat) => i <= n) (st77 n), exits := List.map (fun (x : List Nat × Ex) => x.snd) (ex77 n) } (RetR (X []) true false [ResultVar.cell (2 : Tmp) (111 : TypeId)] [AV.ar I64 (7 : Nat) (brow n)] []) /\ (∃ (y : Nat), y <= n /\ (c /\ c /\ (n : Int) = (n : Int) /\ b = (y : Int) /\ c) /\ [b, b, b, b, b, b, b] = [a, a, a, a, a, a, a] /\ [(1 : Int), b, b, b, b, b, b] = brow y /\ c) /\ (∀ (y : Unit), c -> c /\ c /\ (c /\ c) /\ (brow n = brow n /\ c) /\ c) /\ c) ((0 : (fun (x : Ty) => Ty.brecOn x Ty.D._f) I64))) ((0 : Int))) (True)) (by kernel_rfl) ?_
 simp only [zz]
 exact ⟨hL _, ⟨0, by omega, rfl, rfl⟩, fun _ _ => trivial⟩
def e77 : Entry Tryd.prog gl := entry1 77 ⟨Tryd.f77, by kernel_rfl, by kernel_rfl, by kernel_rfl⟩ I64 (fun (n : Int) => 0 <= n /\ n <= 6) true (fun (n : Int) => [.ar I64 7 (brow n.toNat)]) (fun _ => []) (fun (n : Int) h => by have := call77 n.toNat (by have : 0 <= n /\ n <= 6 := h; omega); rwa [Int.toNat_of_nonneg h.1] at this)
end Go.Am.Bern

/- Bern: the reference's functions of lists; changes. -/
namespace Go.Am.Bern
open Go Go.Am Go.Proofs
def chgS : Int -> List Int -> Nat
 | _, [] => 0
 | last, a :: l => if a = 0 then chgS last l else (if last ≠ 0 /\ ¬ (a < 0 ↔ last < 0) then 1 else 0) + chgS a l
def chg (l : List (Int × Int)) : Nat := chgS 0 (l.map (·.1))
theorem chgS_le : ∀ (l : List Int) (a : Int), chgS a l <= l.length
 | [], _ => Nat.le_refl _
 | b :: l, a => by
   unfold chgS
   have h1 := chgS_le l a
   have h2 := chgS_le l b
   simp only [List.length_cons]
   split
   · omega
   · split <;> omega
theorem chg_drop {l : List (Int × Int)} {k : Nat} (h : k < l.length) : (l.drop k).map (·.1) = (l.getD k (0, 0)).1 :: (l.drop (k + 1)).map (·.1) := by
 rw [drop_getD (d := (0, 0)) h]; try rfl
theorem chg_le (l : List (Int × Int)) : chg l <= l.length := by have := chgS_le (l.map (·.1)) 0; simpa [chg] using this
noncomputable def L65_0 : Code := lp (bodyOf Tryd.f65) 0
def st65 (l : List (Int × Int)) (p : Nat × Nat × Int) : St := ⟨.dead :: .dead :: .dead :: .int .i64 p.2.1 :: .int .i64 p.2.2 :: .dead :: .dead :: .sl FR l :: .int .i64 l.length :: .int .i64 p.1 :: dd 22, []⟩
def inv65 (l : List (Int × Int)) (p : Nat × Nat × Int) : Prop := p.1 <= l.length /\ p.2.1 + chgS p.2.2 ((l.drop p.1).map (·.1)) = chg l
def ex65 (l : List (Int × Int)) : List (List Nat × Ex) := [([3], ⟨0, Unit, fun _ => True, fun _ => ⟨.dead :: .dead :: .dead :: .int .i64 (chg l) :: dd 28, []⟩⟩)]
noncomputable def H65 (l : List (Int × Int)) : Nat -> Option Hint := fun _ => some ⟨chk 0 [3, 4, 7, 8, 9] (inv65 l) (st65 l), (ex65 l).map (·.2)⟩
theorem loop65 (l : List (Int × Int)) (hl : l.length < 1000000) (R : Exit -> St -> Prop) : LoopOK (X []) L65_0 ⟨chk 0 [3, 4, 7, 8, 9] (inv65 l) (st65 l), (ex65 l).map (·.2)⟩ R := by
 refine loop_ok (X_ok []) (H := fun _ _ => none) [3, 4, 7, 8, 9] (inv65 l) (st65 l) (fun p => l.length - p.1) (ex65 l) 80 fun p hp => ?_
 refine of_eq (q := (fun (k : Int) => (fun (j : Int) => (fun (i : Nat) => (fun (h : Int) => (fun (f : Int) => (fun (e : Prop) => (fun (d : Int) => (fun (c : Int) => (fun (b : Int) => (fun (g : Bool) => (fun (a : Prop) => e /\ (j < d -> idxPre j l.length /\ e /\ e /\ e /\ e /\ e /\ e /\ (b = h -> inR .i64 c /\ e /\ ∃ (y : Nat × Nat × Int), (inv65 l y /\ i - y.fst < i - p.fst) /\ (f = (y.snd.fst : Int) /\ k = y.snd.snd /\ l = l /\ d = d /\ c = (y.fst : Int) /\ e) /\ e) /\ (¬b = h -> e /\ e /\ e /\ (¬k = h -> e /\ e /\ e /\ e /\ e /\ e /\ e /\ (g = true -> e /\ inR .i64 (f + 1) /\ e /\ e /\ e /\ e /\ inR .i64 c /\ e /\ ∃ (y : Nat × Nat × Int), (inv65 l y /\ i - y.fst < i - p.fst) /\ (f + 1 = (y.snd.fst : Int) /\ b = y.snd.snd /\ l = l /\ d = d /\ c = (y.fst : Int) /\ e) /\ e) /\ (g = false -> a)) /\ (¬¬k = h -> e /\ a))) /\ (¬j < d -> ∃ (y : Unit), e /\ (f = (↑(chg l) : Int) /\ e) /\ e)) (e /\ e /\ e /\ inR .i64 c /\ e /\ ∃ (y : Nat × Nat × Int), (inv65 l y /\ i - y.fst < i - p.fst) /\ (f = (y.snd.fst : Int) /\ b = y.snd.snd /\ l = l /\ d = d /\ c = (y.fst : Int) /\ e) /\ e)) (decide (b < h) != decide (k < h))) ((l.getD p.fst (h, h)).fst)) (j + 1)) ((i : Int))) (True)) ((p.snd.fst : Int))) ((0 : Int))) (l.length)) ((p.fst : Int))) (p.snd.snd)) (by kernel_rfl) ?_
 simp only [zz]
 obtain ⟨h1, h2⟩ := hp
 have hle := chg_le l
 refine ⟨fun h => ?_, fun h => ?_⟩
 · have h' : p.1 < l.length := by omega
   rw [chg_drop h'] at h2
   generalize (l.getD p.1 (0, 0)).1 = a at *
   have hi : inR .i64 ((p.1 : Int) + 1) := by simp only [inR]; omega
   have hj : inR .i64 ((p.2.1 : Int) + 1) := by simp only [inR]; omega
   unfold chgS at h2
   refine ⟨idx_nat h', fun h4 => ⟨hi, (p.1 + 1, p.2.1, p.2.2), ⟨⟨h', ?_⟩, by simp only; omega⟩, by simp⟩, fun h4 => ⟨fun h5 => ⟨fun h6 => ⟨hj, hi, (p.1 + 1, p.2.1 + 1, a), ⟨⟨h', ?_⟩, by simp only; omega⟩, by simp⟩, fun h6 => ⟨hi, (p.1 + 1, p.2.1, a), ⟨⟨h', ?_⟩, by simp only; omega⟩, by simp⟩⟩, fun h5 => ⟨hi, (p.1 + 1, p.2.1, a), ⟨⟨h', ?_⟩, by simp only; omega⟩, by simp⟩⟩⟩
   · rw [if_pos h4] at h2; exact h2
   · have hc : ¬ (a < 0 ↔ p.2.2 < 0) := fun e => by simp [e] at h6
     rw [if_neg h4, if_pos ⟨h5, hc⟩] at h2
     simp only; omega
   · have hc : ¬ (p.2.2 ≠ 0 /\ ¬ (a < 0 ↔ p.2.2 < 0)) := by
       rintro ⟨_, e⟩
       refine e ?_
       by_cases q1 : a < 0 <;> by_cases q2 : p.2.2 < 0 <;> simp_all
     rw [if_neg h4, if_neg hc] at h2
     simp only; omega
   · rw [if_neg h4, if_neg (fun e => h5 e.1)] at h2
     simp only; omega
 · rw [List.drop_of_length_le (by omega)] at h2
   simp [chgS] at h2; omega
theorem call65 (l : List (Int × Int)) (hl : l.length < 1000000) : GCall Tryd.prog gl 65 true [.sl FR l] [] [.int .i64 (chg l)] [] := by
 refine gcall_of (X := X []) (X_ok []) (f := 65) (fn := Tryd.f65) (c := bodyOf Tryd.f65) (by kernel_rfl) (by kernel_rfl) (view := false) (rvs := [.tmp 2]) (by kernel_rfl) (H := (H65 l)) 80 (by kernel_rfl) ?_
 have hL := loop65 l hl
 refine of_eq (q := (fun (a : Prop) => a /\ a /\ a /\ a /\ a /\ a /\ LoopOK (X []) L65_0 { J := chk (0 : Nat) [(3 : Nat), (4 : Nat), (7 : Nat), (8 : Nat), (9 : Nat)] (inv65 l) (st65 l), exits := List.map (fun (x : List Nat × Ex) => x.snd) (ex65 l) } (RetR (X []) true false [ResultVar.tmp (2 : Tmp)] [AV.int .i64 (↑(chg l) : Int)] []) /\ (∃ (y : Nat × Nat × Int), inv65 l y /\ ((0 : Int) = (y.snd.fst : Int) /\ (0 : Int) = y.snd.snd /\ l = l /\ (l.length : Int) = (l.length : Int) /\ (0 : Int) = (y.fst : Int) /\ a) /\ a) /\ (∀ (y : Unit), a -> a /\ a /\ a /\ ((↑(chg l) : Int) = (↑(chg l) : Int) /\ a) /\ a) /\ a) (True)) (by kernel_rfl) ?_
 simp only [zz]
 exact ⟨hL _, ⟨(0, 0, 0), ⟨by simp, by simp [chg]⟩, by simp⟩, fun _ _ => trivial⟩
def e65 : Entry Tryd.prog gl := entry1 65 ⟨Tryd.f65, by kernel_rfl, by kernel_rfl, by kernel_rfl⟩ SF (fun l => l.length < 1000000) true (fun l => [.int .i64 (chg l)]) (fun _ => []) (call65)
def posL (l : List (Int × Int)) : Prop := ∀ x ∈ l, 0 < x.1
instance (l : List (Int × Int)) : Decidable (posL l) := by unfold posL; infer_instance
noncomputable def L72_0 : Code := lp (bodyOf Tryd.f72) 0
def st72 (l : List (Int × Int)) (k : Nat) : St := ⟨.sl Q2 l :: .dead :: .dead :: .int .i64 k :: dd 12, []⟩
def inv72 (l : List (Int × Int)) (k : Nat) : Prop := k <= l.length /\ ∀ x ∈ l.take k, 0 < x.1
def ex72 (l : List (Int × Int)) : List (List Nat × Ex) := [([], ⟨0, Unit, fun _ => posL l, fun _ => ⟨dd 16, []⟩⟩)]
noncomputable def H72 (l : List (Int × Int)) : Nat -> Option Hint := fun _ => some ⟨chk 0 [0, 3] (inv72 l) (st72 l), (ex72 l).map (·.2)⟩
theorem loop72 (l : List (Int × Int)) (hl : l.length < 1000000) : LoopOK (X []) L72_0 ⟨chk 0 [0, 3] (inv72 l) (st72 l), (ex72 l).map (·.2)⟩ (RetR (X []) true false [.tmp 2] [.bool (decide (posL l))] []) := by
 refine loop_ok (X_ok []) (H := fun _ _ => none) [0, 3] (inv72 l) (st72 l) (fun k => l.length - k) (ex72 l) 80 fun k hk => ?_
 refine of_eq (q := (fun (c : Int) => (fun (b : Prop) => (fun (a : Prop) => b /\ b /\ b /\ b /\ (c < (l.length : Int) -> b /\ b /\ idxPre c l.length /\ idxPre (0 : Int) (2 : Nat) /\ b /\ b /\ (a -> b /\ b /\ (false = decide (posL l) /\ b) /\ b) /\ (¬a -> b /\ inR .i64 (c + 1) /\ b /\ ∃ (y : Nat), (inv72 l y /\ l.length - y < l.length - k) /\ (l = l /\ c + 1 = (y : Int) /\ b) /\ b)) /\ (¬c < (l.length : Int) -> ∃ (y : Unit), posL l /\ b /\ b)) ((l.getD k (0, 0)).fst <= 0)) (True)) ((k : Int))) (by kernel_rfl) ?_
 simp only [zz]
 refine ⟨fun h => ?_, fun h => ?_⟩
 · have h' : k < l.length := by omega
   have hm := mem_getD (d := (0, 0)) h'
   refine ⟨idx_nat h', i02, fun h1 => dff fun H => by have := H _ hm; omega, fun h1 => ⟨by simp only [inR]; omega, k + 1, ⟨⟨by omega, ?_⟩, by omega⟩, by simp⟩⟩
   rw [all_take (d := (0, 0)) h']; exact ⟨hk.2, by omega⟩
 · have := hk.2; rwa [List.take_of_length_le (by omega)] at this
theorem call72 (l : List (Int × Int)) (hl : l.length < 1000000) : GCall Tryd.prog gl 72 true [.sl Q2 l] [] [.bool (decide (posL l))] [] := by
 refine gcall_of (X := X []) (X_ok []) (f := 72) (fn := Tryd.f72) (c := bodyOf Tryd.f72) (by kernel_rfl) (by kernel_rfl) (view := false) (rvs := [.tmp 2]) (by kernel_rfl) (H := (H72 l)) 80 (by kernel_rfl) ?_
 have hL := loop72 l hl
 refine of_eq (q := True /\ True /\ LoopOK (X []) L72_0 { J := chk (0 : Nat) [(0 : Nat), (3 : Nat)] (inv72 l) (st72 l), exits := List.map (fun (x : List Nat × Ex) => x.snd) (ex72 l) } (RetR (X []) true false [ResultVar.tmp (2 : Tmp)] [AV.bool (decide (posL l))] []) /\ (∃ (y : Nat), inv72 l y /\ (l = l /\ (0 : Int) = (y : Int) /\ True) /\ True) /\ (∀ (y : Unit), posL l -> True /\ True /\ (true = decide (posL l) /\ True) /\ True) /\ True) (by kernel_rfl) ?_
 simp only [zz]
 exact ⟨hL, ⟨0, ⟨by omega, by simp⟩, rfl⟩, fun _ h => dtt h⟩
def e72 : Entry Tryd.prog gl := entry1 72 ⟨Tryd.f72, by kernel_rfl, by kernel_rfl, by kernel_rfl⟩ SQ (fun l => l.length < 1000000) true (fun l => [.bool (decide (posL l))]) (fun _ => []) (call72)
def cov : Int -> List (Int × Int) -> Prop
 | at', [] => at' = 64
 | at', x :: l => isPiece x /\ x.2 * 2 ^ (6 - x.1).toNat = at' /\ cov (at' + 2 ^ (6 - x.1).toNat) l
instance cov_dec : ∀ (at' : Int) (l : List (Int × Int)), Decidable (cov at' l)
 | _, [] => by unfold cov; infer_instance
 | at', x :: l => by unfold cov; have := cov_dec (at' + 2 ^ (6 - x.1).toNat) l; infer_instance
theorem piece_at {x : Int × Int} (h : isPiece x) : 0 <= x.2 * 2 ^ (6 - x.1).toNat /\ x.2 * 2 ^ (6 - x.1).toNat + 2 ^ (6 - x.1).toNat <= 64 /\ 1 <= (2 : Int) ^ (6 - x.1).toNat /\ (2 : Int) ^ (6 - x.1).toNat <= 64 := by
 obtain ⟨h1, h2, h3, h4⟩ := h
 have : x.1 = 0 ∨ x.1 = 1 ∨ x.1 = 2 ∨ x.1 = 3 ∨ x.1 = 4 ∨ x.1 = 5 ∨ x.1 = 6 := by omega
 rcases this with e | e | e | e | e | e | e <;> rw [e] at h4 |- <;> simp at h4 |- <;> omega
noncomputable def L73_0 : Code := lp (bodyOf Tryd.f73) 0
def st73 (l : List (Int × Int)) (p : Nat × Int) : St := ⟨.sl Q2 l :: .dead :: .dead :: .int .i64 p.2 :: .int .i64 p.1 :: dd 39, []⟩
def inv73 (l : List (Int × Int)) (p : Nat × Int) : Prop := p.1 <= l.length /\ (cov p.2 (l.drop p.1) ↔ cov 0 l) /\ 0 <= p.2 /\ p.2 <= 64
def ex73 (l : List (Int × Int)) : List (List Nat × Ex) := [([3], ⟨0, Int, fun m => m = 64 ↔ cov 0 l, fun m => ⟨.dead :: .dead :: .dead :: .int .i64 m :: dd 40, []⟩⟩)]
noncomputable def H73 (l : List (Int × Int)) : Nat -> Option Hint := fun _ => some ⟨chk 0 [0, 3, 4] (inv73 l) (st73 l), (ex73 l).map (·.2)⟩
theorem loop73 (l : List (Int × Int)) (hl : l.length < 1000000) : LoopOK (X [e14]) L73_0 ⟨chk 0 [0, 3, 4] (inv73 l) (st73 l), (ex73 l).map (·.2)⟩ (RetR (X [e14]) true false [.tmp 2] [.bool (decide (cov 0 l))] []) := by
 refine loop_ok (X_ok [e14]) (H := fun _ _ => none) [0, 3, 4] (inv73 l) (st73 l) (fun p => l.length - p.1) (ex73 l) 80 fun p hp => ?_
 refine of_eq (q := (fun (j : Int) => (fun (h : Int) => (fun (g : Int) => (fun (d : Prop) => (fun (f : Prop) => (fun (c : Prop) => (fun (a : Int × Int) => (fun (i : Bool) => (fun (e : Int) => (fun (k : Prop) => (fun (b : Int) => (fun (m : Int) => d /\ d /\ d /\ d /\ (g < (l.length : Int) -> d /\ d /\ c /\ d /\ d /\ d /\ d /\ (i = true -> d /\ f) /\ (i = false -> d /\ d /\ c /\ idxPre j (2 : Nat) /\ d /\ d /\ d /\ c /\ idxPre h (2 : Nat) /\ d /\ inR .i64 e /\ (k /\ (-9223372036854775808 : Int) <= m /\ m <= 9223372036854775807) /\ d /\ d /\ d /\ (¬m = p.snd -> f) /\ (¬¬m = p.snd -> d /\ d /\ d /\ c /\ idxPre h (2 : Nat) /\ d /\ inR .i64 e /\ (k /\ (-9223372036854775808 : Int) <= j * b /\ j * b <= 9223372036854775807) /\ inR .i64 (p.snd + j * b) /\ d /\ d /\ inR .i64 (g + j) /\ d /\ ∃ (y : Nat × Int), (inv73 l y /\ l.length - y.fst < l.length - p.fst) /\ (l = l /\ p.snd + j * b = y.snd /\ g + j = (y.fst : Int) /\ d) /\ d))) /\ (¬g < (l.length : Int) -> ∃ (y : Int), (y = 64 ↔ cov h l) /\ (p.snd = y /\ d) /\ d)) (a.snd * b)) ((2 : Int) ^ e.toNat)) (h <= e /\ e < bitsOf .i64)) ((6 : Int) - a.fst)) (!decide (isPiece (a.fst, a.snd)))) (l.getD p.fst (h, h))) (idxPre g l.length)) (d /\ d /\ (false = decide (cov h l) /\ d) /\ d)) (True)) ((p.fst : Int))) ((0 : Int))) ((1 : Int))) (by kernel_rfl) ?_
 simp only [zz]
 obtain ⟨h1, h2, h3, h4⟩ := hp
 refine ⟨fun h => ?_, fun h => ⟨p.2, ?_, rfl⟩⟩
 · have h' : p.1 < l.length := by omega
   rw [drop_getD (d := (0, 0)) h'] at h2
   generalize l.getD p.1 (0, 0) = x at *
   rw [Int.one_mul]
   refine ⟨idx_nat h', fun h5 => dff fun h6 => ?_, fun h5 => ?_⟩
   · have := (h2.mpr h6).1
     simp [this] at h5
   · have hx : isPiece x := by
       have : ¬ (!decide (isPiece (x.1, x.2))) = true := by rw [h5]; simp
       simpa using this
     have hb := piece_at hx
     have hx' := hx
     unfold isPiece at hx'
     refine ⟨idx_nat h', i12, idx_nat h', i02, by simp only [inR]; omega, ⟨by simp only [bitsOf]; omega, by omega⟩, fun h6 => dff fun h7 => h6 (h2.mpr h7).2.1, fun h6 => ⟨idx_nat h', i02, by simp only [inR]; omega, ⟨by simp only [bitsOf]; omega, by omega⟩, by simp only [inR]; omega, by simp only [inR]; omega, (p.1 + 1, p.2 + 2 ^ (6 - x.1).toNat), ⟨⟨h', ?_, by simp only; omega, by simp only; omega⟩, by simp only; omega⟩, by simp⟩⟩
     rw [<- h2]
     exact ⟨fun h7 => ⟨hx, Classical.not_not.mp h6, h7⟩, fun h7 => h7.2.2⟩
 · rw [<- h2, List.drop_of_length_le (by omega)]; try rfl
theorem call73 (l : List (Int × Int)) (hl : l.length < 1000000) : GCall Tryd.prog gl 73 true [.sl Q2 l] [] [.bool (decide (cov 0 l))] [] := by
 refine gcall_of (X := X [e14]) (X_ok [e14]) (f := 73) (fn := Tryd.f73) (c := bodyOf Tryd.f73) (by kernel_rfl) (by kernel_rfl) (view := false) (rvs := [.tmp 2]) (by kernel_rfl) (H := (H73 l)) 80 (by kernel_rfl) ?_
 have hL := loop73 l hl
 refine of_eq (q := True /\ True /\ True /\ LoopOK (X [e14]) L73_0 { J := chk (0 : Nat) [(0 : Nat), (3 : Nat), (4 : Nat)] (inv73 l) (st73 l), exits := List.map (fun (x : List Nat × Ex) => x.snd) (ex73 l) } (RetR (X [e14]) true false [ResultVar.tmp (2 : Tmp)] [AV.bool (decide (cov (0 : Int) l))] []) /\ (∃ (y : Nat × Int), inv73 l y /\ (l = l /\ (0 : Int) = y.snd /\ (0 : Int) = (y.fst : Int) /\ True) /\ True) /\ (∀ (y : Int), (y = 64 ↔ cov (0 : Int) l) -> True /\ True /\ True /\ True /\ (decide (y = 64) = decide (cov (0 : Int) l) /\ True) /\ True) /\ True) (by kernel_rfl) ?_
 simp only [zz]
 exact ⟨hL, ⟨(0, 0), ⟨by simp, by simp, by simp, by simp⟩, by simp⟩, fun y h => ddd h⟩
def e73 : Entry Tryd.prog gl := entry1 73 ⟨Tryd.f73, by kernel_rfl, by kernel_rfl, by kernel_rfl⟩ SQ (fun l => l.length < 1000000) true (fun l => [.bool (decide (cov 0 l))]) (fun _ => []) (call73)
theorem call47 (r s : Rat) (h : addOk r (-s)) : GCall Tryd.prog gl 47 true [ofD Q2 (qp r), ofD Q2 (qp s)] [] [.bool (decide (r < s))] [] := by
 refine gcall_of (X := X [e86]) (X_ok [e86]) (f := 47) (fn := Tryd.f47) (c := bodyOf Tryd.f47) (by kernel_rfl) (by kernel_rfl) (view := false) (rvs := [.tmp 4]) (by kernel_rfl) (H := fun _ => none) 80 (by kernel_rfl) ?_
 refine of_eq (q := (fun (c : Prop) => (fun (b : Int × Int) => (fun (a : Int × Int) => c /\ c /\ c /\ c /\ idxPre (0 : Int) (2 : Nat) /\ c /\ inR .i64 (-s.num) /\ idxPre (1 : Int) (2 : Nat) /\ c /\ c /\ ((good b /\ good a /\ addOk (rat b) (rat a)) /\ c) /\ idxPre (0 : Int) (2 : Nat) /\ c /\ c /\ c /\ (decide ((rat b + rat a).num < 0) = decide (r < s) /\ c) /\ c) ((-s.num, (s.den : Int)))) ((r.num, (r.den : Int)))) (True)) (by kernel_rfl) ?_
 simp only [zz]
 have hb := h
 obtain ⟨D, M, N, hD, hD2, hr, hs, hMN⟩ := hb
 have q := hs.spec hD
 have q' := hr.spec hD
 have e : rat (-s.num, (s.den : Int)) = -s := rat_num_den (-s)
 have hM : 0 <= M := by obtain ⟨m, _, h1, h2⟩ := hr; omega
 simp only [Rat.neg_num] at q
 refine ⟨i02, by simp only [inR]; omega, i12, ⟨good_nd r, ?_, ?_⟩, i02, ?_⟩
 · exact good_nd (-s)
 · rw [e]; exact h
 · rw [e]
   refine ddd ?_
   rw [<- Rat.sub_eq_add_neg]
   have := @Rat.num_nonneg (r - s)
   have h2 := Rat.le_iff_sub_nonneg s r
   rw [<- Rat.not_le, h2, <- this]
   omega
def e47 : Entry Tryd.prog gl := entry2 47 ⟨Tryd.f47, by kernel_rfl, by kernel_rfl, by kernel_rfl⟩ Q2 Q2 (fun x y => good x /\ good y /\ addOk (rat x) (-rat y)) true (fun x y => [.bool (decide (rat x < rat y))]) (fun _ _ => []) (fun x y h => by have := call47 _ _ h.2.2; rwa [h.1, h.2.1] at this)
noncomputable def L15_0 : Code := lp (bodyOf Tryd.f15) 0
def st15 (l m : List (Int × Int)) (k : Nat) : St := ⟨.sl Q2 l :: .sl Q2 m :: .dead :: .dead :: .dead :: .int .i64 k :: dd 20, []⟩
def inv15 (l m : List (Int × Int)) (k : Nat) : Prop := k <= l.length /\ ∀ j, j < k -> l.getD j (0, 0) = m.getD j (0, 0)
def ex15 (l m : List (Int × Int)) : List (List Nat × Ex) := [([], ⟨0, Unit, fun _ => l = m, fun _ => ⟨dd 26, []⟩⟩)]
noncomputable def H15 (l m : List (Int × Int)) : Nat -> Option Hint := fun _ => some ⟨chk 0 [0, 1, 5] (inv15 l m) (st15 l m), (ex15 l m).map (·.2)⟩
theorem loop15 (l m : List (Int × Int)) (hl : l.length < 1000000) (hm : l.length = m.length) : LoopOK (X []) L15_0 ⟨chk 0 [0, 1, 5] (inv15 l m) (st15 l m), (ex15 l m).map (·.2)⟩ (RetR (X []) true false [.tmp 4] [.bool (decide (l = m))] []) := by
 refine loop_ok (X_ok []) (H := fun _ _ => none) [0, 1, 5] (inv15 l m) (st15 l m) (fun k => l.length - k) (ex15 l m) 80 fun k hk => ?_
 refine of_eq (q := (fun (d : Prop) => (fun (c : Int × Int) => (fun (b : Int) => (fun (a : Prop) => d /\ d /\ d /\ d /\ (b < (l.length : Int) -> d /\ d /\ idxPre b l.length /\ d /\ d /\ d /\ idxPre b m.length /\ d /\ d /\ (a -> d /\ d /\ (false = decide (l = m) /\ d) /\ d) /\ (¬a -> d /\ inR .i64 (b + 1) /\ d /\ ∃ (y : Nat), (inv15 l m y /\ l.length - y < l.length - k) /\ (l = l /\ m = m /\ b + 1 = (y : Int) /\ d) /\ d)) /\ (¬b < (l.length : Int) -> ∃ (y : Unit), l = m /\ d /\ d)) (¬((l.getD k c).fst, (l.getD k c).snd) = ((m.getD k c).fst, (m.getD k c).snd))) ((k : Int))) (((0 : Int), (0 : Int)))) (True)) (by kernel_rfl) ?_
 simp only [zz]
 obtain ⟨h1, h2⟩ := hk
 have e : ∀ x : Int × Int, (x.1, x.2) = x := fun x => rfl
 simp only [e]
 refine ⟨fun h => ?_, fun h => ?_⟩
 · refine ⟨idx_nat (by omega), idx_nat (by omega), fun h3 => dff fun h4 => h3 (by rw [h4]), fun h3 => ⟨by simp only [inR]; omega, k + 1, ⟨⟨by omega, fun j hj => ?_⟩, by omega⟩, by simp⟩⟩
   by_cases e : j = k
   · subst e; exact Classical.not_not.mp h3
   · exact h2 j (by omega)
 · exact ext_getD (d := (0, 0)) hm fun n hn => h2 n (by omega)
theorem call15 (l m : List (Int × Int)) (hl : l.length < 1000000) : GCall Tryd.prog gl 15 true [.sl Q2 l, .sl Q2 m] [] [.bool (decide (l = m))] [] := by
 refine gcall_of (X := X []) (X_ok []) (f := 15) (fn := Tryd.f15) (c := bodyOf Tryd.f15) (by kernel_rfl) (by kernel_rfl) (view := false) (rvs := [.tmp 4]) (by kernel_rfl) (H := (H15 l m)) 80 (by kernel_rfl) ?_
 have hL := loop15 l m hl
 have hL : l.length = m.length -> LoopOK (X []) L15_0 ⟨chk 0 [0, 1, 5] (inv15 l m) (st15 l m), (ex15 l m).map (·.2)⟩ (RetR (X []) true false [.tmp 4] [.bool (decide (l = m))] []) := by
   exact fun h => loop15 l m hl h
 refine of_eq (q := (fun (c : Prop) => (fun (b : Bool) => (fun (a : Prop) => a /\ a /\ a /\ a /\ a /\ a /\ (c -> a /\ a /\ (false = b /\ a) /\ a) /\ (¬c -> a /\ LoopOK (X []) L15_0 { J := chk (0 : Nat) [(0 : Nat), (1 : Nat), (5 : Nat)] (inv15 l m) (st15 l m), exits := List.map (fun (x : List Nat × Ex) => x.snd) (ex15 l m) } (RetR (X []) true false [ResultVar.tmp (4 : Tmp)] [AV.bool b] []) /\ (∃ (y : Nat), inv15 l m y /\ (l = l /\ m = m /\ (0 : Int) = (y : Int) /\ a) /\ a) /\ (∀ (y : Unit), l = m -> a /\ a /\ (true = b /\ a) /\ a) /\ a)) (True)) (decide (l = m))) (¬(l.length : Int) = (m.length : Int))) (by kernel_rfl) ?_
 simp only [zz]
 refine ⟨fun h => dff fun e => h (by rw [e]), fun h => ⟨?_, ⟨0, ⟨by omega, fun j hj => by omega⟩, rfl⟩, fun _ h => dtt h⟩⟩
 exact hL (by omega)
def e15 : Entry Tryd.prog gl := entry2 15 ⟨Tryd.f15, by kernel_rfl, by kernel_rfl, by kernel_rfl⟩ SQ SQ (fun l m => l.length < 1000000) true (fun l m => [.bool (decide (l = m))]) (fun _ _ => []) (call15)
end Go.Am.Bern

/- Bern: the reference's corners. -/
namespace Go.Am.Bern
open Go Go.Am Go.Proofs
noncomputable def L60_0 : Code := lp (bodyOf Tryd.f60) 0
noncomputable def L60_2 : Code := lp (bodyOf Tryd.f60) 2
def z0 : Ob := .bx (ofD Q2 (0, 0))
def qs (l : List Rat) : List (Int × Int) := l.map qp
theorem qs_length (l : List Rat) : (qs l).length = l.length := by simp [qs]
theorem qs_getD {l : List Rat} {k : Nat} (h : k < l.length) : (qs l).getD k (0, 0) = qp (l.getD k 0) := getD_map h
theorem whole_getD {p : List Int} {i : Nat} (h : i < p.length) : (whole p).getD i 0 = wsum p (p.length - 1) i (i + 1) := by
 rw [getD_lt (by rw [whole_length]; exact h)]
 simp [whole]
theorem whole_take {p : List Int} {i : Nat} (h : i < p.length) : (qs (whole p)).take (i + 1) = (qs (whole p)).take i ++ [qp (wsum p (p.length - 1) i (i + 1))] := by
 rw [take_getD (d := (0, 0)) (by rw [qs_length, whole_length]; exact h), qs_getD (by rw [whole_length]; exact h), whole_getD h]
/-- At the head of the outer loop: corners so far. -/
def sz60 (p : List Int) (_ : Unit) : St := ⟨.sl I64 p :: .dead :: .dead :: .int .i64 (p.length - 1 : Int) :: .vv (.slice none 0 0) :: .int .i64 0 :: dd 35, []⟩
def st60 (p : List Int) (i : Nat) : St := ⟨.sl I64 p :: .dead :: .dead :: .int .i64 (p.length - 1 : Int) :: .own 0 0 :: .int .i64 i :: dd 35, [.sc 0 48 Q2 ((qs (whole p)).take i)]⟩
/-- At the head of the inner loop. -/
def jz60 (p : List Int) (i : Nat) (k : Nat) : St := ⟨.sl I64 p :: .dead :: .dead :: .int .i64 (p.length - 1 : Int) :: .vv (.slice none 0 0) :: .int .i64 i :: .ptr 0 0 [] :: .int .i64 k :: dd 33, [.bx (ofD Q2 (qp (wsum p (p.length - 1) i k)))]⟩
def jt60 (p : List Int) (i : Nat) (k : Nat) : St := ⟨.sl I64 p :: .dead :: .dead :: .int .i64 (p.length - 1 : Int) :: .own 0 0 :: .int .i64 i :: .ptr 1 0 [] :: .int .i64 k :: dd 33, [.sc 0 48 Q2 ((qs (whole p)).take i), .bx (ofD Q2 (qp (wsum p (p.length - 1) i k)))]⟩
def fj60 (p : List Int) (i : Nat) : List Fam := [⟨Nat, fun k => i = 0 /\ k <= i + 1, jz60 p i, fun k => i + 1 - k, fun _ _ => none⟩, ⟨Nat, fun k => k <= i + 1, jt60 p i, fun k => i + 1 - k, fun _ _ => none⟩]
def ej60 (p : List Int) (i : Nat) : List (List Nat × Ex) := [
 ([0, 3, 4, 5, 6], ⟨2, Unit, fun _ => i = 0, fun _ => ⟨.sl I64 p :: .dead :: .dead :: .int .i64 (p.length - 1 : Int) :: .vv (.slice none 0 0) :: .int .i64 i :: .ptr 0 0 [] :: dd 34, [.bx (ofD Q2 (qp (wsum p (p.length - 1) i (i + 1))))]⟩⟩),
 ([0, 3, 4, 5, 6], ⟨2, Unit, fun _ => True, fun _ => ⟨.sl I64 p :: .dead :: .dead :: .int .i64 (p.length - 1 : Int) :: .own 0 0 :: .int .i64 i :: .ptr 1 0 [] :: dd 34, [.sc 0 48 Q2 ((qs (whole p)).take i), .bx (ofD Q2 (qp (wsum p (p.length - 1) i (i + 1))))]⟩⟩)]
noncomputable def H60j (p : List Int) (i : Nat) : Nat -> Option Hint := fun _ => some ⟨chks 0 [0, 3, 4, 5, 6, 7] (fj60 p i), (ej60 p i).map (·.2)⟩
noncomputable def fm60 (p : List Int) : List Fam := [⟨Unit, fun _ => True, sz60 p, fun _ => p.length + 1, fun _ => H60j p 0⟩, ⟨Nat, fun i => i <= p.length, st60 p, fun i => p.length - i, fun i => H60j p i⟩]
def ex60 (p : List Int) : List (List Nat × Ex) := [([4], ⟨0, Unit, fun _ => True, fun _ => ⟨.dead :: .dead :: .dead :: .dead :: .own 0 0 :: dd 36, [.sc 0 48 Q2 (qs (whole p))]⟩⟩)]
noncomputable def H60 (p : List Int) : Nat -> Option Hint := fun _ => some ⟨chks 0 [0, 3, 4, 5] (fm60 p), (ex60 p).map (·.2)⟩
theorem loop60_2 (p : List Int) (hp : isPoly p) (i : Nat) (hi : i < p.length) (R : Exit -> St -> Prop) : LoopOK (X [e88, e46, e86]) L60_2 ⟨chks 0 [0, 3, 4, 5, 6, 7] (fj60 p i), (ej60 p i).map (·.2)⟩ R := by
 refine loop_fams (X_ok [e88, e46, e86]) [0, 3, 4, 5, 6, 7] (fj60 p i) (ej60 p i) 80 ⟨fun (k : Nat) hk => ?_, fun (k : Nat) hk => ?_, trivial⟩
 · refine of_eq (q := (fun (j : Prop) => (fun (h : Int) => (fun (f : Nat) => (fun (n : Nat) => (fun (m : Nat) => (fun (e : Int) => (fun (d : Int) => (fun (c : Int) => (fun (b : Rat) => (fun (g : Rat) => (fun (a : Int × Int) => (fun (l : Rat) => j /\ j /\ j /\ (e <= d -> j /\ j /\ j /\ idxPre e p.length /\ j /\ j /\ j /\ ((0 : Int) <= e /\ e <= d /\ d <= 6) /\ inR .i64 h /\ j /\ j /\ ((0 : Int) <= e /\ e <= c /\ c <= 6) /\ (small h /\ small (ch c.toNat k)) /\ (good (b.num, (b.den : Int)) /\ good (a.fst, a.snd) /\ addOk g l) /\ j /\ j /\ inR .i64 (e + 1) /\ j /\ ((∃ (y : Nat), ((i = 0 /\ y <= n) /\ n - y < n - k) /\ (p = p /\ c = c /\ j /\ d = d /\ j /\ e + 1 = (y : Int) /\ j) /\ [(g + l).num, (↑(g + l).den : Int)] = [(wsum p m i y).num, (↑(wsum p m i y).den : Int)] /\ j) ∨ ∃ (y : Nat), (y <= n /\ n - y < n - k) /\ (p = p /\ c = c /\ False /\ d = d /\ False /\ e + 1 = (y : Int) /\ j) /\ False /\ False)) /\ (¬e <= d -> (∃ (y : Unit), i = 0 /\ (p = p /\ c = c /\ j /\ d = d /\ j /\ j) /\ [b.num, (b.den : Int)] = [(wsum p m i n).num, (↑(wsum p m i n).den : Int)] /\ j) ∨ ∃ (y : Unit), j /\ (p = p /\ c = c /\ False /\ d = d /\ False /\ j) /\ False /\ False)) (rat (a.fst, a.snd))) (fracR h (ch c.toNat k))) (rat (b.num, (b.den : Int)))) (wsum p m i k)) ((p.length : Int) - 1)) ((i : Int))) ((k : Int))) (p.length - f)) (i + f)) ((1 : Nat))) (p.getD k (0 : Int) * ch i k)) (True)) (by kernel_rfl) ?_
   simp only [zz]
   unfold isPoly at hp
   have en : ((p.length : Int) - 1).toNat = p.length - 1 := by omega
   rw [en]
   have hle : k <= i + 1 := hk.2
   refine ⟨fun h => ?_, fun h => ?_⟩
   · have hc := ch_facts (n := p.length - 1) (k := k) (by omega) (by omega)
     have ht := term_num hp.2.2 (i := i) (k := k) (by omega) (by omega)
     have hf : fracR (p.getD k 0 * ch i k) (ch (p.length - 1) k) = qp (term p (p.length - 1) i k) := fracR_eq (by omega)
     rw [hf]
     simp only [qp_fst, qp_snd, rat_num_den]
     exact ⟨idx_nat (by omega), by omega, by simp only [inR]; omega, by omega, ⟨by unfold small; omega, by unfold small; omega⟩, ⟨good_nd _, good_nd _, wsum_ok hp.2.2 (by omega) (by omega) (by omega)⟩, by simp only [inR]; omega, k + 1, by omega, by simp, rfl⟩
   · rw [show k = i + 1 by omega]; exact ⟨hk.1, rfl⟩
 · refine of_eq (q := (fun (l : Int) => (fun (j : Prop) => (fun (g : Nat) => (fun (o : Nat) => (fun (n : Nat) => (fun (f : Int) => (fun (e : List (Int × Int)) => (fun (d : Int) => (fun (c : Int) => (fun (b : Rat) => (fun (h : Rat) => (fun (a : Int × Int) => (fun (m : Rat) => j /\ j /\ j /\ (f <= d -> j /\ j /\ j /\ idxPre f p.length /\ j /\ j /\ j /\ ((0 : Int) <= f /\ f <= d /\ d <= 6) /\ inR .i64 l /\ j /\ j /\ ((0 : Int) <= f /\ f <= c /\ c <= 6) /\ (small l /\ small (ch c.toNat k)) /\ (good (b.num, (b.den : Int)) /\ good (a.fst, a.snd) /\ addOk h m) /\ j /\ j /\ inR .i64 (f + 1) /\ j /\ ((∃ (y : Nat), ((i = 0 /\ y <= o) /\ o - y < o - k) /\ (p = p /\ c = c /\ False /\ d = d /\ False /\ f + 1 = (y : Int) /\ j) /\ False /\ j) ∨ ∃ (y : Nat), (y <= o /\ o - y < o - k) /\ (p = p /\ c = c /\ j /\ d = d /\ j /\ f + 1 = (y : Int) /\ j) /\ e = e /\ [(h + m).num, (↑(h + m).den : Int)] = [(wsum p n i y).num, (↑(wsum p n i y).den : Int)] /\ j)) /\ (¬f <= d -> (∃ (y : Unit), i = 0 /\ (p = p /\ c = c /\ False /\ d = d /\ False /\ j) /\ False /\ j) ∨ ∃ (y : Unit), j /\ (p = p /\ c = c /\ j /\ d = d /\ j /\ j) /\ e = e /\ [b.num, (b.den : Int)] = [(wsum p n i o).num, (↑(wsum p n i o).den : Int)] /\ j)) (rat (a.fst, a.snd))) (fracR l (ch c.toNat k))) (rat (b.num, (b.den : Int)))) (wsum p n i k)) ((p.length : Int) - 1)) ((i : Int))) (List.take i (qs (whole p)))) ((k : Int))) (p.length - g)) (i + g)) ((1 : Nat))) (True)) (p.getD k (0 : Int) * ch i k)) (by kernel_rfl) ?_
   simp only [zz]
   unfold isPoly at hp
   have en : ((p.length : Int) - 1).toNat = p.length - 1 := by omega
   rw [en]
   have hle : k <= i + 1 := hk
   refine ⟨fun h => ?_, fun h => ?_⟩
   · have hc := ch_facts (n := p.length - 1) (k := k) (by omega) (by omega)
     have ht := term_num hp.2.2 (i := i) (k := k) (by omega) (by omega)
     have hf : fracR (p.getD k 0 * ch i k) (ch (p.length - 1) k) = qp (term p (p.length - 1) i k) := fracR_eq (by omega)
     rw [hf]
     simp only [qp_fst, qp_snd, rat_num_den]
     exact ⟨idx_nat (by omega), by omega, by simp only [inR]; omega, by omega, ⟨by unfold small; omega, by unfold small; omega⟩, ⟨good_nd _, good_nd _, wsum_ok hp.2.2 (by omega) (by omega) (by omega)⟩, by simp only [inR]; omega, k + 1, by omega, by simp, rfl⟩
   · rw [show k = i + 1 by omega]
theorem loop60 (p : List Int) (hp : isPoly p) (R : Exit -> St -> Prop) : LoopOK (X [e88, e46, e86]) L60_0 ⟨chks 0 [0, 3, 4, 5] (fm60 p), (ex60 p).map (·.2)⟩ R := by
 refine loop_fams (X_ok [e88, e46, e86]) [0, 3, 4, 5] (fm60 p) (ex60 p) 80 ⟨fun _ _ => ?_, fun (i : Nat) hi => ?_, trivial⟩
 · have h0 : 0 < p.length := hp.1
   have hL := loop60_2 p hp 0 h0
   refine of_eq (q := (fun (j : Int) => (fun (i : Cy) => (fun (h : Int) => (fun (g : Nat) => (fun (f : Nat) => (fun (e : Nat) => (fun (d : Prop) => (fun (b : Int) => (fun (c : Prop) => (fun (a : Int × Int) => d /\ d /\ d /\ (h <= b -> d /\ d /\ d /\ d /\ LoopOK i L60_2 { J := chks f [f, (3 : Nat), (4 : Nat), (5 : Nat), (6 : Nat), (7 : Nat)] (fj60 p f), exits := List.map (fun (x : List Nat × Ex) => x.snd) (ej60 p f) } (bodyR i.m0 (ex60 p) R) /\ ((∃ (y : Nat), (f = f /\ y <= g) /\ (p = p /\ b = b /\ d /\ h = h /\ d /\ h = (y : Int) /\ d) /\ [h, j] = [(wsum p (e - g) f y).num, (↑(wsum p (e - g) f y).den : Int)] /\ d) ∨ ∃ (y : Nat), y <= g /\ (p = p /\ b = b /\ False /\ h = h /\ False /\ h = (y : Int) /\ d) /\ False /\ False) /\ (∀ (y : Unit), f = f -> d /\ d /\ d /\ sumPre f [a].length (nat_lit 16) /\ d /\ d /\ inR .i64 j /\ d /\ (c ∨ ∃ (y : Nat), (y <= e /\ e - y < e + g) /\ (p = p /\ b = b /\ d /\ j = (y : Int) /\ d) /\ [a] = List.take y (qs (whole p)) /\ d)) /\ (∀ (y : Unit), d -> d /\ d /\ d /\ sumPre ([] : List Int).length [a].length (nat_lit 16) /\ d /\ d /\ inR .i64 j /\ d /\ (c ∨ ∃ (y : Nat), (y <= e /\ e - y < e + g) /\ (p = p /\ b = b /\ d /\ j = (y : Int) /\ d) /\ [] ++ [a] = List.take y (qs (whole p)) /\ d)) /\ d) /\ (¬h <= b -> ∃ (y : Unit), d /\ (False /\ d) /\ False)) (((wsum p (e - g) f g).num, (↑(wsum p (e - g) f g).den : Int)))) (∃ (y : Unit), (d /\ e + g < e + g) /\ (p = p /\ b = b /\ False /\ j = h /\ d) /\ d)) ((e : Int) - j)) (True)) (p.length)) ((0 : Nat))) ((1 : Nat))) ((0 : Int))) (X [e88, e46, e86])) ((1 : Int))) (by kernel_rfl) ?_
   simp only [zz]
   unfold isPoly at hp
   have hs := whole_take h0
   simp only [Nat.zero_add, List.take_zero, List.nil_append] at hs
   refine ⟨fun _ => ⟨hL _, ⟨0, by omega, rfl, rfl⟩, fun _ _ => ⟨by unfold sumPre; simp, by simp only [inR]; omega, 1, by omega, rfl, hs.symm⟩, fun _ _ => ⟨by unfold sumPre; simp, by simp only [inR]; omega, 1, by omega, rfl, hs.symm⟩⟩, fun h => h (by omega)⟩
 · have hL := loop60_2 p hp i
   refine of_eq (q := (fun (n : Nat) => (fun (j : Cy) => (fun (h : Nat) => (fun (g : Nat) => (fun (m : Rat) => (fun (f : Prop) => (fun (e : Int) => (fun (k : Int) => (fun (c : List (Int × Int)) => (fun (l : List (Int × Int)) => (fun (b : Int) => (fun (d : Prop) => (fun (a : Int × Int) => f /\ f /\ f /\ (e <= b -> f /\ f /\ f /\ f /\ LoopOK j L60_2 { J := chks n [n, (3 : Nat), (4 : Nat), (5 : Nat), (6 : Nat), (7 : Nat)] (fj60 p i), exits := List.map (fun (x : List Nat × Ex) => x.snd) (ej60 p i) } (bodyR j.m0 (ex60 p) R) /\ ((∃ (y : Nat), (i = n /\ y <= i + h) /\ (p = p /\ b = b /\ False /\ e = e /\ False /\ (0 : Int) = (y : Int) /\ f) /\ False /\ f) ∨ ∃ (y : Nat), y <= i + h /\ (p = p /\ b = b /\ f /\ e = e /\ f /\ (0 : Int) = (y : Int) /\ f) /\ l = l /\ [(0 : Int), (1 : Int)] = [(wsum p (g - h) i y).num, (↑(wsum p (g - h) i y).den : Int)] /\ f) /\ (∀ (y : Unit), i = n -> f /\ f /\ f /\ sumPre n [a].length (nat_lit 16) /\ f /\ f /\ inR .i64 k /\ f /\ (d ∨ ∃ (y : Nat), (y <= g /\ g - y < g - i) /\ (p = p /\ b = b /\ f /\ k = (y : Int) /\ f) /\ [a] = List.take y c /\ f)) /\ (∀ (y : Unit), f -> f /\ f /\ f /\ sumPre l.length [a].length (nat_lit 16) /\ f /\ f /\ inR .i64 k /\ f /\ (d ∨ ∃ (y : Nat), (y <= g /\ g - y < g - i) /\ (p = p /\ b = b /\ f /\ k = (y : Int) /\ f) /\ l ++ [a] = List.take y c /\ f)) /\ f) /\ (¬e <= b -> ∃ (y : Unit), f /\ (f /\ f) /\ l = c /\ f)) ((m.num, (m.den : Int)))) (∃ (y : Unit), (f /\ g + h < g - i) /\ (p = p /\ b = b /\ False /\ k = 0 /\ f) /\ f)) ((g : Int) - 1)) (List.take i c)) (qs (whole p))) (e + 1)) ((i : Int))) (True)) (wsum p (g - h) i (i + h))) (p.length)) ((1 : Nat))) (X [e88, e46, e86])) ((0 : Nat))) (by kernel_rfl) ?_
   simp only [zz]
   unfold isPoly at hp
   have hi' : i <= p.length := hi
   have hln : (qs (whole p)).length = p.length := by rw [qs_length, whole_length]
   refine ⟨fun h => ?_, fun h => by rw [List.take_of_length_le (by omega)]⟩
   have hs := whole_take (p := p) (i := i) (by omega)
   refine ⟨hL (by omega) _, ⟨0, by omega, rfl, rfl⟩, fun _ h0 => ⟨by unfold sumPre; simp, by simp only [inR]; omega, i + 1, by omega, by omega, ?_⟩, fun _ _ => ⟨by unfold sumPre; simp; omega, by simp only [inR]; omega, i + 1, by omega, by omega, hs.symm⟩⟩
   rw [hs, h0]; try rfl
theorem call60 (p : List Int) (hp : isPoly p) : GCall Tryd.prog gl 60 false [.sl I64 p] [] [.sl Q2 (qs (whole p))] [] := by
 refine gcall_of (X := X [e88,e46,e86]) (X_ok [e88,e46,e86]) (f := 60) (fn := Tryd.f60) (c := bodyOf Tryd.f60) (by kernel_rfl) (by kernel_rfl) (view := true) (rvs := [.tmp 2]) (by kernel_rfl) (H := (H60 p)) 80 (by kernel_rfl) ?_
 have hL := loop60 p hp
 refine of_eq (q := (fun (d : Int) => (fun (c : Prop) => (fun (b : Cy) => (fun (a : Prop) => c /\ c /\ c /\ inR .i64 d /\ c /\ c /\ c /\ LoopOK b L60_0 { J := chks (0 : Nat) [(0 : Nat), (3 : Nat), (4 : Nat), (5 : Nat)] (fm60 p), exits := List.map (fun (x : List Nat × Ex) => x.snd) (ex60 p) } (RetR b false true [ResultVar.tmp (2 : Tmp)] [AV.sl Q2 (qs (whole p))] []) /\ ((∃ (y : Unit), c /\ (p = p /\ a /\ c /\ (0 : Int) = 0 /\ c) /\ c) ∨ ∃ (y : Nat), y <= p.length /\ (p = p /\ a /\ False /\ (0 : Int) = (y : Int) /\ c) /\ False) /\ (∀ (y : Unit), c -> c /\ c /\ c /\ (qs (whole p) = qs (whole p) /\ c) /\ c) /\ c) (d = (p.length : Int) - 1)) (X [e88, e46, e86])) (True)) ((p.length : Int) - 1)) (by kernel_rfl) ?_
 simp only [zz]
 have := hp.2.1
 exact ⟨by simp only [inR]; omega, hL _, fun _ _ => trivial⟩
def e60 : Entry Tryd.prog gl := entry1 60 ⟨Tryd.f60, by kernel_rfl, by kernel_rfl, by kernel_rfl⟩ SI (fun p => isPoly p) false (fun p => [.sl Q2 (qs (whole p))]) (fun _ => []) (call60)
end Go.Am.Bern

/- Bern: the reference's divisions. -/
namespace Go.Am.Bern
open Go Go.Am Go.Proofs
noncomputable def L40_0 : Code := lp (bodyOf Tryd.f40) 0
noncomputable def L40_2 : Code := lp (bodyOf Tryd.f40) 2
def bx40 (x : Rat) : Ob := .bx (ofD Q2 (qp x))
def sq48 (l : List Rat) : Ob := .sc 0 48 Q2 (qs l)
def nl : AV := .vv (.slice none 0 0)
noncomputable def X40 : Cy := Xd [e87, e86] (drOf [(10, 23)])
theorem X40_ok : X40.Ok := Xd_ok _ _
structure P3 where
 row : List Rat
 left : List Rat
 right : List Rat
def f40a (x : Rat) (p : P3) : St := ⟨.dead :: .dead :: .dead :: .ptr 0 0 [] :: .dead :: .dead :: .sl Q2 (qs p.row) :: nl :: nl :: dd 56, [bx40 x]⟩
def f40b (x : Rat) (p : P3) : St := ⟨.dead :: .dead :: .dead :: .ptr 0 0 [] :: .dead :: .dead :: .own 1 0 :: .own 2 0 :: .own 3 0 :: dd 56, [bx40 x, sq48 p.row, sq48 p.left, sq48 p.right]⟩
def f40c (x : Rat) (p : P3) : St := ⟨.dead :: .dead :: .dead :: .ptr 0 0 [] :: .dead :: .dead :: nl :: .own 1 0 :: .own 2 0 :: dd 56, [bx40 x, sq48 p.left, sq48 p.right]⟩
/-- The inner loop: the next row. v: the row is looked at. -/
def j40a (x : Rat) (p : P3) (v : Bool) (_ : Unit) : St := match v with
 | true => ⟨.dead :: .dead :: .dead :: .ptr 0 0 [] :: .dead :: .dead :: .sl Q2 (qs p.row) :: .own 1 0 :: .own 2 0 :: nl :: .int .i64 1 :: dd 54, [bx40 x, sq48 p.left, sq48 p.right]⟩
 | false => ⟨.dead :: .dead :: .dead :: .ptr 0 0 [] :: .dead :: .dead :: .own 1 0 :: .own 2 0 :: .own 3 0 :: nl :: .int .i64 1 :: dd 54, [bx40 x, sq48 p.row, sq48 p.left, sq48 p.right]⟩
def j40b (x : Rat) (p : P3) (v : Bool) (k : Nat) : St := match v with
 | true => ⟨.dead :: .dead :: .dead :: .ptr 0 0 [] :: .dead :: .dead :: .sl Q2 (qs p.row) :: .own 1 0 :: .own 2 0 :: .own 3 0 :: .int .i64 (k + 1 : Int) :: dd 54, [bx40 x, sq48 p.left, sq48 p.right, sq48 ((dcs x p.row).take k)]⟩
 | false => ⟨.dead :: .dead :: .dead :: .ptr 0 0 [] :: .dead :: .dead :: .own 1 0 :: .own 2 0 :: .own 3 0 :: .own 4 0 :: .int .i64 (k + 1 : Int) :: dd 54, [bx40 x, sq48 p.row, sq48 p.left, sq48 p.right, sq48 ((dcs x p.row).take k)]⟩
def fj40 (x : Rat) (p : P3) (v : Bool) : List Fam := [⟨Unit, fun _ => True, j40a x p v, fun _ => p.row.length + 1, fun _ _ => none⟩, ⟨Nat, fun k => 1 <= k /\ k + 1 <= p.row.length, j40b x p v, fun k => p.row.length - k, fun _ _ => none⟩]
def ej40 (x : Rat) (p : P3) : List (List Nat × Ex) := [
 ([3, 7, 8, 9], ⟨2, Unit, fun _ => p.row.length = 1, fun _ => ⟨.dead :: .dead :: .dead :: .ptr 0 0 [] :: .dead :: .dead :: .dead :: .own 1 0 :: .own 2 0 :: nl :: dd 55, [bx40 x, sq48 p.left, sq48 p.right]⟩⟩),
 ([3, 7, 8, 9], ⟨2, Unit, fun _ => 2 <= p.row.length, fun _ => ⟨.dead :: .dead :: .dead :: .ptr 0 0 [] :: .dead :: .dead :: .dead :: .own 1 0 :: .own 2 0 :: .own 3 0 :: dd 55, [bx40 x, sq48 p.left, sq48 p.right, sq48 (dcs x p.row)]⟩⟩)]
noncomputable def Hj40 (x : Rat) (p : P3) (v : Bool) : Nat -> Option Hint := fun _ => some ⟨chks 0 [3, 6, 7, 8, 9, 10] (fj40 x p v), (ej40 x p).map (·.2)⟩
def nx (p : P3) : P3 := ⟨p.row, p.left ++ [p.row.getD 0 0], p.row.getD (p.row.length - 1) 0 :: p.right⟩
theorem rat_sub (x : Rat) : rat ((x.den : Int) - x.num, (x.den : Int)) = 1 - x := by
 have := sub_self_num x
 rw [<- this, rat_qp]
theorem good_sub (x : Rat) : good ((x.den : Int) - x.num, (x.den : Int)) := by
 unfold good; rw [rat_sub, sub_self_num]
theorem loop40_2 (x : Rat) (p : P3) (v : Bool) (D M b : Int) (l left right : List Rat) (h : Dv D M b x l) (r : Rw D M b x l p.row left right) (h0 : 1 <= p.row.length) (R : Exit -> St -> Prop) :
   LoopOK X40 L40_2 ⟨chks 0 [3, 6, 7, 8, 9, 10] (fj40 x p v), (ej40 x p).map (·.2)⟩ R := by
 have hlr : p.row.length <= 7 := by have := r.len; have := h.len; omega
 have hq := qs_length p.row
 have sx : small (x.den - x.num) := by
   have h1 := h.pow (j := 1) (by omega)
   have hD := h.hD; have hb := h.hb; have hx := h.hx
   have hb1 := h.b1
   have := Int.mul_le_mul_of_nonneg_right (show 1 <= D by omega) (show 0 <= b by omega)
   unfold small; simp only [Int.pow_one] at h1 this; omega
 cases v with
 | true =>
   refine loop_fams X40_ok [3, 6, 7, 8, 9, 10] (fj40 x p true) (ej40 x p) 80 ⟨fun _ _ => ?_, fun (k : Nat) hk => ?_, trivial⟩
   · refine of_eq (q := (fun (t : Int) => (fun (o : Int) => (fun (n : Nat) => (fun (m : Int) => (fun (l : Nat) => (fun (i : Prop) => (fun (h : Prop) => (fun (g : Prop) => (fun (f : Int × Int) => (fun (e : Int) => (fun (q : Prop) => (fun (d : List (Int × Int)) => (fun (k : Int × Int) => (fun (j : Int × Int) => (fun (c : Rat) => (fun (r : Int × Int) => (fun (b : Rat) => (fun (s : Int × Int) => (fun (a : Rat) => i /\ i /\ i /\ i /\ (o < (d.length : Int) -> i /\ i /\ i /\ inR .i64 t /\ idxPre t d.length /\ i /\ idxPre o (2 : Nat) /\ i /\ idxPre t (2 : Nat) /\ i /\ inR .i64 (e - m) /\ idxPre o (2 : Nat) /\ i /\ i /\ (good j /\ good (e - m, e) /\ mulOk (rat j) (rat (e - m, e))) /\ i /\ i /\ idxPre o d.length /\ i /\ i /\ (good k /\ good (m, e) /\ mulOk (rat k) (rat (m, e))) /\ (good s /\ good r /\ addOk (rat s) (rat r)) /\ i /\ sumPre (0 : Nat) [(a.num, (a.den : Int))].length (nat_lit 16) /\ i /\ i /\ inR .i64 (2 : Int) /\ i /\ ((∃ (y : Unit), (i /\ l + n < l + n) /\ (i /\ d = d /\ i /\ i /\ False /\ (2 : Int) = o /\ i) /\ q /\ h /\ g /\ i) ∨ ∃ (y : Nat), ((n <= y /\ y + n <= l) /\ l - y < l + n) /\ (i /\ d = d /\ i /\ i /\ i /\ (2 : Int) = (y : Int) + o /\ i) /\ q /\ h /\ g /\ [(a.num, (a.den : Int))] = qs (List.take y (dcs x p.row)) /\ i)) /\ (¬o < (d.length : Int) -> (∃ (y : Unit), l = n /\ (i /\ i /\ i /\ i /\ i) /\ q /\ h /\ g /\ i) ∨ ∃ (y : Unit), (2 : Nat) <= l /\ (i /\ i /\ i /\ False /\ i) /\ q /\ h /\ g /\ False)) (rat s + rat r)) ((b.num, (b.den : Int)))) (rat j * rat (e - m, e))) ((c.num, (c.den : Int)))) (rat k * rat (m, e))) (((d.getD (0 : Nat) f).fst, (d.getD (0 : Nat) f).snd))) (((d.getD n f).fst, (d.getD n f).snd))) (qs p.row)) ([m, e] = [m, e])) ((x.den : Int))) ((t, t))) (qs p.right = qs p.right)) (qs p.left = qs p.left)) (True)) (p.row.length)) (x.num)) ((1 : Nat))) ((1 : Int))) ((0 : Int))) (by kernel_rfl) ?_
     simp only [zz]
     refine ⟨fun h2 => ?_, fun h2 => by omega⟩
     have ok := Rw.avg h r (k := 0) (by omega)
     rw [qs_getD (show 0 < p.row.length by omega), qs_getD (show 1 < p.row.length by omega)]
     simp only [qp_fst, qp_snd, rat_num_den, rat_sub]
     refine ⟨by simp only [inR]; omega, by unfold idxPre; omega, i12, i02, inR_of_small sx, i12, ⟨good_nd _, good_sub _, ok.1⟩, by unfold idxPre; omega, ⟨good_nd _, good_nd _, ok.2.1⟩, ⟨good_nd _, good_nd _, ok.2.2⟩, by unfold sumPre; simp, by simp only [inR]; omega, 1, by omega, by omega, ?_⟩
     rw [dcs_take x (by omega)]; try rfl
   · refine of_eq (q := (fun (v : Nat) => (fun (r : Int) => (fun (q : Int) => (fun (o : Nat) => (fun (n : Int) => (fun (m : List (Int × Int)) => (fun (l : Prop) => (fun (j : Prop) => (fun (i : Prop) => (fun (h : List (Int × Int)) => (fun (g : Int) => (fun (e : Int × Int) => (fun (d : Int) => (fun (s : Prop) => (fun (c : Rat) => (fun (t : Int × Int) => (fun (b : Int × Int) => (fun (f : Rat) => (fun (u : Int × Int) => (fun (a : Rat) => l /\ l /\ l /\ l /\ (g < (h.length : Int) -> l /\ l /\ l /\ inR .i64 (g - n) /\ idxPre (g - n) h.length /\ l /\ idxPre n (2 : Nat) /\ l /\ idxPre r (2 : Nat) /\ l /\ inR .i64 (d - q) /\ idxPre n (2 : Nat) /\ l /\ l /\ (good b /\ good (d - q, d) /\ mulOk (rat b) (rat (d - q, d))) /\ l /\ l /\ idxPre g h.length /\ l /\ l /\ (good (e.fst, e.snd) /\ good (q, d) /\ mulOk (rat (e.fst, e.snd)) (rat (q, d))) /\ (good u /\ good t /\ addOk (rat u) (rat t)) /\ l /\ sumPre m.length [(a.num, (a.den : Int))].length (nat_lit 16) /\ l /\ l /\ inR .i64 (g + n) /\ l /\ ((∃ (y : Unit), (l /\ o + v < o - k) /\ (l /\ h = h /\ l /\ l /\ False /\ g + n = n /\ l) /\ s /\ j /\ i /\ l) ∨ ∃ (y : Nat), ((v <= y /\ y + v <= o) /\ o - y < o - k) /\ (l /\ h = h /\ l /\ l /\ l /\ g + n = (y : Int) + n /\ l) /\ s /\ j /\ i /\ m ++ [(a.num, (a.den : Int))] = qs (List.take y (dcs x p.row)) /\ l)) /\ (¬g < (h.length : Int) -> (∃ (y : Unit), o = v /\ (l /\ l /\ l /\ False /\ l) /\ s /\ j /\ i /\ l) ∨ ∃ (y : Unit), (2 : Nat) <= o /\ (l /\ l /\ l /\ l /\ l) /\ s /\ j /\ i /\ m = qs (dcs x p.row) /\ l)) (rat u + rat t)) ((f.num, (f.den : Int)))) (rat b * rat (d - q, d))) (((h.getD (g - n).toNat (r, r)).fst, (h.getD (g - n).toNat (r, r)).snd))) ((c.num, (c.den : Int)))) (rat (e.fst, e.snd) * rat (q, d))) ([q, d] = [q, d])) ((x.den : Int))) (h.getD (k + v) (r, r))) ((k : Int) + n)) (qs p.row)) (qs p.right = qs p.right)) (qs p.left = qs p.left)) (True)) (qs (List.take k (dcs x p.row)))) ((1 : Int))) (p.row.length)) (x.num)) ((0 : Int))) ((1 : Nat))) (by kernel_rfl) ?_
     simp only [zz]
     have hk' : 1 <= k /\ k + 1 <= p.row.length := hk
     have e1 : ((k : Int) + 1 - 1).toNat = k := by omega
     have e2 : ((k : Int) + 1).toNat = k + 1 := by omega
     refine ⟨fun h2 => ?_, fun h2 => ⟨by omega, ?_⟩⟩
     · have ok := Rw.avg h r (k := k) (by omega)
       simp only [e1, e2]
       rw [qs_getD (show k < p.row.length by omega), qs_getD (show k + 1 < p.row.length by omega)]
       simp only [qp_fst, qp_snd, rat_num_den, rat_sub]
       have hl := dcs_length x p.row
       refine ⟨by simp only [inR]; omega, by unfold idxPre; omega, i12, i02, inR_of_small sx, i12, ⟨good_nd _, good_sub _, ok.1⟩, by unfold idxPre; omega, ⟨good_nd _, good_nd _, ok.2.1⟩, ⟨good_nd _, good_nd _, ok.2.2⟩, ?_, by simp only [inR]; omega, k + 1, by omega, by simp, ?_⟩
       · unfold sumPre; simp only [qs_length, List.length_take, List.length_cons, List.length_nil]; omega
       · rw [dcs_take x (by omega)]; simp [qs]; try rfl
     · rw [List.take_of_length_le (by rw [dcs_length]; omega)]
 | false =>
   refine loop_fams X40_ok [3, 6, 7, 8, 9, 10] (fj40 x p false) (ej40 x p) 80 ⟨fun _ _ => ?_, fun (k : Nat) hk => ?_, trivial⟩
   · refine of_eq (q := (fun (t : Int) => (fun (o : Int) => (fun (n : Nat) => (fun (m : Int) => (fun (l : Nat) => (fun (i : Prop) => (fun (h : Prop) => (fun (g : Prop) => (fun (f : Int × Int) => (fun (e : Int) => (fun (q : Prop) => (fun (d : List (Int × Int)) => (fun (k : Int × Int) => (fun (j : Int × Int) => (fun (c : Rat) => (fun (r : Int × Int) => (fun (b : Rat) => (fun (s : Int × Int) => (fun (a : Rat) => i /\ i /\ i /\ i /\ (o < (d.length : Int) -> i /\ i /\ i /\ inR .i64 t /\ idxPre t d.length /\ i /\ idxPre o (2 : Nat) /\ i /\ idxPre t (2 : Nat) /\ i /\ inR .i64 (e - m) /\ idxPre o (2 : Nat) /\ i /\ i /\ (good k /\ good (e - m, e) /\ mulOk (rat k) (rat (e - m, e))) /\ i /\ i /\ idxPre o d.length /\ i /\ i /\ (good j /\ good (m, e) /\ mulOk (rat j) (rat (m, e))) /\ (good s /\ good r /\ addOk (rat s) (rat r)) /\ i /\ sumPre (0 : Nat) [(a.num, (a.den : Int))].length (nat_lit 16) /\ i /\ i /\ inR .i64 (2 : Int) /\ i /\ ((∃ (y : Unit), (i /\ l + n < l + n) /\ (i /\ i /\ i /\ i /\ False /\ (2 : Int) = o /\ i) /\ q /\ d = d /\ h /\ g /\ i) ∨ ∃ (y : Nat), ((n <= y /\ y + n <= l) /\ l - y < l + n) /\ (i /\ i /\ i /\ i /\ i /\ (2 : Int) = (y : Int) + o /\ i) /\ q /\ d = d /\ h /\ g /\ [(a.num, (a.den : Int))] = qs (List.take y (dcs x p.row)) /\ i)) /\ (¬o < (d.length : Int) -> (∃ (y : Unit), l = n /\ (i /\ i /\ i /\ i /\ i) /\ q /\ h /\ g /\ i) ∨ ∃ (y : Unit), (2 : Nat) <= l /\ (i /\ i /\ i /\ False /\ i) /\ q /\ h /\ g /\ False)) (rat s + rat r)) ((b.num, (b.den : Int)))) (rat k * rat (e - m, e))) ((c.num, (c.den : Int)))) (rat j * rat (m, e))) (((d.getD n f).fst, (d.getD n f).snd))) (((d.getD (0 : Nat) f).fst, (d.getD (0 : Nat) f).snd))) (qs p.row)) ([m, e] = [m, e])) ((x.den : Int))) ((t, t))) (qs p.right = qs p.right)) (qs p.left = qs p.left)) (True)) (p.row.length)) (x.num)) ((1 : Nat))) ((1 : Int))) ((0 : Int))) (by kernel_rfl) ?_
     simp only [zz]
     refine ⟨fun h2 => ?_, fun h2 => by omega⟩
     have ok := Rw.avg h r (k := 0) (by omega)
     rw [qs_getD (show 0 < p.row.length by omega), qs_getD (show 1 < p.row.length by omega)]
     simp only [qp_fst, qp_snd, rat_num_den, rat_sub]
     refine ⟨by simp only [inR]; omega, by unfold idxPre; omega, i12, i02, inR_of_small sx, i12, ⟨good_nd _, good_sub _, ok.1⟩, by unfold idxPre; omega, ⟨good_nd _, good_nd _, ok.2.1⟩, ⟨good_nd _, good_nd _, ok.2.2⟩, by unfold sumPre; simp, by simp only [inR]; omega, 1, by omega, by omega, ?_⟩
     rw [dcs_take x (by omega)]; try rfl
   · refine of_eq (q := (fun (v : Nat) => (fun (r : Int) => (fun (q : Int) => (fun (o : Nat) => (fun (n : Int) => (fun (m : List (Int × Int)) => (fun (l : Prop) => (fun (j : Prop) => (fun (i : Prop) => (fun (h : List (Int × Int)) => (fun (g : Int) => (fun (e : Int × Int) => (fun (d : Int) => (fun (s : Prop) => (fun (c : Rat) => (fun (t : Int × Int) => (fun (b : Int × Int) => (fun (f : Rat) => (fun (u : Int × Int) => (fun (a : Rat) => j /\ j /\ j /\ j /\ (g < (h.length : Int) -> j /\ j /\ j /\ inR .i64 (g - n) /\ idxPre (g - n) h.length /\ j /\ idxPre n (2 : Nat) /\ j /\ idxPre r (2 : Nat) /\ j /\ inR .i64 (d - q) /\ idxPre n (2 : Nat) /\ j /\ j /\ (good b /\ good (d - q, d) /\ mulOk (rat b) (rat (d - q, d))) /\ j /\ j /\ idxPre g h.length /\ j /\ j /\ (good (e.fst, e.snd) /\ good (q, d) /\ mulOk (rat (e.fst, e.snd)) (rat (q, d))) /\ (good u /\ good t /\ addOk (rat u) (rat t)) /\ j /\ sumPre m.length [(a.num, (a.den : Int))].length (nat_lit 16) /\ j /\ j /\ inR .i64 (g + n) /\ j /\ ((∃ (y : Unit), (j /\ o + v < o - k) /\ (j /\ j /\ j /\ j /\ False /\ g + n = n /\ j) /\ s /\ h = h /\ l /\ i /\ j) ∨ ∃ (y : Nat), ((v <= y /\ y + v <= o) /\ o - y < o - k) /\ (j /\ j /\ j /\ j /\ j /\ g + n = (y : Int) + n /\ j) /\ s /\ h = h /\ l /\ i /\ m ++ [(a.num, (a.den : Int))] = qs (List.take y (dcs x p.row)) /\ j)) /\ (¬g < (h.length : Int) -> (∃ (y : Unit), o = v /\ (j /\ j /\ j /\ False /\ j) /\ s /\ l /\ i /\ j) ∨ ∃ (y : Unit), (2 : Nat) <= o /\ (j /\ j /\ j /\ j /\ j) /\ s /\ l /\ i /\ m = qs (dcs x p.row) /\ j)) (rat u + rat t)) ((f.num, (f.den : Int)))) (rat b * rat (d - q, d))) (((h.getD (g - n).toNat (r, r)).fst, (h.getD (g - n).toNat (r, r)).snd))) ((c.num, (c.den : Int)))) (rat (e.fst, e.snd) * rat (q, d))) ([q, d] = [q, d])) ((x.den : Int))) (h.getD (k + v) (r, r))) ((k : Int) + n)) (qs p.row)) (qs p.right = qs p.right)) (True)) (qs p.left = qs p.left)) (qs (List.take k (dcs x p.row)))) ((1 : Int))) (p.row.length)) (x.num)) ((0 : Int))) ((1 : Nat))) (by kernel_rfl) ?_
     simp only [zz]
     have hk' : 1 <= k /\ k + 1 <= p.row.length := hk
     have e1 : ((k : Int) + 1 - 1).toNat = k := by omega
     have e2 : ((k : Int) + 1).toNat = k + 1 := by omega
     refine ⟨fun h2 => ?_, fun h2 => ⟨by omega, ?_⟩⟩
     · have ok := Rw.avg h r (k := k) (by omega)
       simp only [e1, e2]
       rw [qs_getD (show k < p.row.length by omega), qs_getD (show k + 1 < p.row.length by omega)]
       simp only [qp_fst, qp_snd, rat_num_den, rat_sub]
       have hl := dcs_length x p.row
       refine ⟨by simp only [inR]; omega, by unfold idxPre; omega, i12, i02, inR_of_small sx, i12, ⟨good_nd _, good_sub _, ok.1⟩, by unfold idxPre; omega, ⟨good_nd _, good_nd _, ok.2.1⟩, ⟨good_nd _, good_nd _, ok.2.2⟩, ?_, by simp only [inR]; omega, k + 1, by omega, by simp, ?_⟩
       · unfold sumPre; simp only [qs_length, List.length_take, List.length_cons, List.length_nil]; omega
       · rw [dcs_take x (by omega)]; simp [qs]; try rfl
     · rw [List.take_of_length_le (by rw [dcs_length]; omega)]
noncomputable def fm40 (x : Rat) (D M b : Int) (l : List Rat) : List Fam := [
 ⟨P3, fun p => Rw D M b x l p.row [] [] /\ 1 <= p.row.length /\ p.left = [] /\ p.right = [], f40a x, fun p => p.row.length + 1, fun p => Hj40 x (nx p) true⟩,
 ⟨P3, fun p => Rw D M b x l p.row p.left p.right /\ 1 <= p.row.length, f40b x, fun p => p.row.length, fun p => Hj40 x (nx p) false⟩,
 ⟨P3, fun p => Rw D M b x l [] p.left p.right, f40c x, fun _ => 0, fun _ _ => none⟩]
def ex40 (x : Rat) (l : List Rat) : List (List Nat × Ex) := [([7, 8], ⟨0, Unit, fun _ => True, fun _ => ⟨.dead :: .dead :: .dead :: .dead :: .dead :: .dead :: .dead :: .own 0 0 :: .own 1 0 :: dd 56, [sq48 (dvL x l), sq48 (dvR x l)]⟩⟩)]
noncomputable def H40 (x : Rat) (D M b : Int) (l : List Rat) : Nat -> Option Hint := fun _ => some ⟨chks 0 [3, 6, 7, 8] (fm40 x D M b l), (ex40 x l).map (·.2)⟩
theorem Rw.lens {D M b : Int} {x : Rat} {l row left right : List Rat} (r : Rw D M b x l row left right) : left.length + row.length = l.length /\ right.length + row.length = l.length := by
 have h1 := congrArg List.length r.L
 have h2 := congrArg List.length r.R
 rw [List.length_append, divL_length, dvL_length] at h1
 rw [divR_length, dvR_length] at h2
 omega
theorem loop40 (x : Rat) (D M b : Int) (l : List Rat) (h : Dv D M b x l) (R : Exit -> St -> Prop) : LoopOK X40 L40_0 ⟨chks 0 [3, 6, 7, 8] (fm40 x D M b l), (ex40 x l).map (·.2)⟩ R := by
 refine loop_fams X40_ok [3, 6, 7, 8] (fm40 x D M b l) (ex40 x l) 80 ⟨fun (p : P3) hp => ?_, fun (p : P3) hp => ?_, fun (p : P3) hp => ?_, trivial⟩
 · have hL := loop40_2 x (nx p) true D M b l _ _ h hp.1 hp.2.1
   refine of_eq (q := (fun (r : Nat) => (fun (q : Int) => (fun (o : Int) => (fun (m : Nat) => (fun (h : Nat) => (fun (g : Prop) => (fun (j : Prop) => (fun (s : Prop) => (fun (f : List (Int × Int)) => (fun (k : Int) => (fun (e : P3) => (fun (n : List (Int × Int)) => (fun (i : List (Int × Int)) => (fun (d : Int × Int) => (fun (c : Prop) => (fun (a : Int × Int) => g /\ g /\ g /\ (q < k -> g /\ g /\ idxPre q f.length /\ g /\ g /\ sumPre r [(d.fst, d.snd)].length (nat_lit 16) /\ g /\ g /\ g /\ g /\ inR .i64 (k - o) /\ idxPre (k - o) f.length /\ g /\ g /\ g /\ sumPre [(a.fst, a.snd)].length r (nat_lit 16) /\ g /\ g /\ g /\ LoopOK X40 L40_2 { J := chks r [(3 : Nat), (6 : Nat), (7 : Nat), (8 : Nat), (9 : Nat), (10 : Nat)] (fj40 x e true), exits := List.map (fun (x : List Nat × Ex) => x.snd) (ej40 x e) } (bodyR X40.m0 (ex40 x l) R) /\ ((∃ (y : Unit), g /\ (g /\ f = qs e.row /\ g /\ g /\ g /\ o = o /\ g) /\ c /\ [(d.fst, d.snd)] = i /\ [(a.fst, a.snd)] ++ [] = n /\ g) ∨ ∃ (y : Nat), (m <= y /\ y + m <= e.row.length) /\ (g /\ f = qs e.row /\ g /\ g /\ False /\ o = (y : Int) + o /\ g) /\ c /\ [(d.fst, d.snd)] = i /\ [(a.fst, a.snd)] ++ [] = n /\ False) /\ (∀ (y : Unit), e.row.length = m -> g /\ g /\ ((∃ (y : P3), ((Rw D M b x l y.row [] [] /\ m <= y.row.length /\ y.left = [] /\ y.right = []) /\ y.row.length + m < h) /\ (g /\ ([] : List (Int × Int)) = qs y.row /\ j) /\ c /\ g) ∨ (∃ (y : P3), ((Rw D M b x l y.row y.left y.right /\ m <= y.row.length) /\ y.row.length < h) /\ s /\ c /\ i = qs y.row /\ n = qs y.left /\ False) ∨ ∃ (y : P3), (Rw D M b x l [] y.left y.right /\ r < h) /\ (g /\ g /\ g /\ g /\ g) /\ c /\ i = qs y.left /\ n = qs y.right /\ g)) /\ (∀ (y : Unit), (2 : Nat) <= e.row.length -> g /\ g /\ ((∃ (y : P3), ((Rw D M b x l y.row [] [] /\ m <= y.row.length /\ y.left = [] /\ y.right = []) /\ y.row.length + m < h) /\ s /\ c /\ g) ∨ (∃ (y : P3), ((Rw D M b x l y.row y.left y.right /\ m <= y.row.length) /\ y.row.length < h) /\ (g /\ g /\ g /\ g /\ g) /\ c /\ qs (dcs x e.row) = qs y.row /\ i = qs y.left /\ n = qs y.right /\ g) ∨ ∃ (y : P3), (Rw D M b x l [] y.left y.right /\ r < h) /\ s /\ c /\ qs (dcs x e.row) = qs y.left /\ i = qs y.right /\ g)) /\ g) /\ (¬q < k -> ∃ (y : Unit), g /\ j /\ False)) (f.getD (k - o).toNat (q, q))) ([x.num, (x.den : Int)] = [x.num, (x.den : Int)])) (f.getD r (q, q))) (qs e.left)) (qs e.right)) (nx p)) ((f.length : Int))) (qs p.row)) (g /\ False /\ j)) (False /\ False /\ g)) (True)) (p.row.length + m)) ((1 : Nat))) ((1 : Int))) ((0 : Int))) ((0 : Nat))) (by kernel_rfl) ?_
   simp only [zz]
   obtain ⟨r, h0, e1, e2⟩ := hp
   have hq := qs_length p.row
   have hl := r.lens
   have hn := h.len
   have r' := r.next h h0
   have e3 : ((p.row.length : Int) - 1).toNat = p.row.length - 1 := by omega
   have e4 : nx p = ⟨p.row, [] ++ [p.row.getD 0 0], [p.row.getD (p.row.length - 1) 0]⟩ := by unfold nx; rw [e1, e2]
   rw [hq, e3, qs_getD (show 0 < p.row.length by omega), qs_getD (show p.row.length - 1 < p.row.length by omega), e4]
   refine ⟨fun _ => ⟨by unfold idxPre; omega, by unfold sumPre; simp, by simp only [inR]; omega, by unfold idxPre; omega, by unfold sumPre; simp, by rw [<- e4]; exact hL _, ⟨rfl, rfl, rfl⟩, fun _ h1 => ⟨⟨[], [] ++ [p.row.getD 0 0], [p.row.getD (p.row.length - 1) 0]⟩, ⟨?_, by omega⟩, rfl, rfl⟩, fun _ h1 => ⟨⟨dcs x p.row, [] ++ [p.row.getD 0 0], [p.row.getD (p.row.length - 1) 0]⟩, ⟨⟨r', ?_⟩, ?_⟩, rfl, rfl, rfl⟩⟩, fun h1 => h1 (by omega)⟩
   · have h1' : p.row.length = 1 := h1
     have : dcs x p.row = [] := List.length_eq_zero_iff.mp (by rw [dcs_length]; omega)
     rw [this] at r'; exact r'
   · have h1' : 2 <= p.row.length := h1
     rw [dcs_length]; omega
   · have h1' : 2 <= p.row.length := h1
     simp only [dcs_length]; omega
 · have hL := loop40_2 x (nx p) false D M b l _ _ h hp.1 hp.2
   refine of_eq (q := (fun (s : List (Int × Int)) => (fun (r : Int) => (fun (q : Int) => (fun (o : List (Int × Int)) => (fun (n : Nat) => (fun (m : Nat) => (fun (g : List (Int × Int)) => (fun (i : Int) => (fun (f : Prop) => (fun (j : Prop) => (fun (e : P3) => (fun (k : List (Int × Int)) => (fun (h : List (Int × Int)) => (fun (d : Int × Int) => (fun (c : Prop) => (fun (a : Int × Int) => f /\ f /\ f /\ (q < i -> f /\ f /\ idxPre q g.length /\ f /\ f /\ sumPre s.length [(d.fst, d.snd)].length (nat_lit 16) /\ f /\ f /\ f /\ f /\ inR .i64 (i - r) /\ idxPre (i - r) g.length /\ f /\ f /\ f /\ sumPre [(a.fst, a.snd)].length o.length (nat_lit 16) /\ f /\ f /\ f /\ LoopOK X40 L40_2 { J := chks (0 : Nat) [(3 : Nat), (6 : Nat), (7 : Nat), (8 : Nat), (9 : Nat), (10 : Nat)] (fj40 x e false), exits := List.map (fun (x : List Nat × Ex) => x.snd) (ej40 x e) } (bodyR X40.m0 (ex40 x l) R) /\ ((∃ (y : Unit), f /\ (f /\ f /\ f /\ f /\ f /\ r = r /\ f) /\ c /\ g = qs e.row /\ s ++ [(d.fst, d.snd)] = h /\ [(a.fst, a.snd)] ++ o = k /\ f) ∨ ∃ (y : Nat), (m <= y /\ y + m <= e.row.length) /\ (f /\ f /\ f /\ f /\ False /\ r = (y : Int) + r /\ f) /\ c /\ g = qs e.row /\ s ++ [(d.fst, d.snd)] = h /\ [(a.fst, a.snd)] ++ o = k /\ False) /\ (∀ (y : Unit), e.row.length = m -> f /\ f /\ ((∃ (y : P3), ((Rw D M b x l y.row [] [] /\ m <= y.row.length /\ y.left = [] /\ y.right = []) /\ y.row.length + m < n) /\ (f /\ ([] : List (Int × Int)) = qs y.row /\ False /\ False /\ f) /\ c /\ f) ∨ (∃ (y : P3), ((Rw D M b x l y.row y.left y.right /\ m <= y.row.length) /\ y.row.length < n) /\ j /\ c /\ h = qs y.row /\ k = qs y.left /\ False) ∨ ∃ (y : P3), (Rw D M b x l [] y.left y.right /\ (0 : Nat) < n) /\ (f /\ f /\ f /\ f /\ f) /\ c /\ h = qs y.left /\ k = qs y.right /\ f)) /\ (∀ (y : Unit), (2 : Nat) <= e.row.length -> f /\ f /\ ((∃ (y : P3), ((Rw D M b x l y.row [] [] /\ m <= y.row.length /\ y.left = [] /\ y.right = []) /\ y.row.length + m < n) /\ j /\ c /\ f) ∨ (∃ (y : P3), ((Rw D M b x l y.row y.left y.right /\ m <= y.row.length) /\ y.row.length < n) /\ (f /\ f /\ f /\ f /\ f) /\ c /\ qs (dcs x e.row) = qs y.row /\ h = qs y.left /\ k = qs y.right /\ f) ∨ ∃ (y : P3), (Rw D M b x l [] y.left y.right /\ (0 : Nat) < n) /\ j /\ c /\ qs (dcs x e.row) = qs y.left /\ h = qs y.right /\ f)) /\ f) /\ (¬q < i -> ∃ (y : Unit), f /\ (f /\ f /\ f) /\ s = qs (dvL x l) /\ o = qs (dvR x l) /\ f)) (g.getD (i - r).toNat (q, q))) ([x.num, (x.den : Int)] = [x.num, (x.den : Int)])) (g.getD (0 : Nat) (q, q))) (qs e.left)) (qs e.right)) (nx p)) (f /\ False /\ False /\ False /\ f)) (True)) ((g.length : Int))) (qs p.row)) ((1 : Nat))) (p.row.length)) (qs p.right)) ((0 : Int))) ((1 : Int))) (qs p.left)) (by kernel_rfl) ?_
   simp only [zz]
   obtain ⟨r, h0⟩ := hp
   have hq := qs_length p.row
   have hl := r.lens
   have hn := h.len
   have r' := r.next h h0
   have e3 : ((p.row.length : Int) - 1).toNat = p.row.length - 1 := by omega
   rw [hq, e3, qs_getD (show 0 < p.row.length by omega), qs_getD (show p.row.length - 1 < p.row.length by omega)]
   refine ⟨fun _ => ⟨by unfold idxPre; omega, by unfold sumPre; simp [qs_length]; omega, by simp only [inR]; omega, by unfold idxPre; omega, by unfold sumPre; simp [qs_length]; omega, hL _, ⟨rfl, by simp [nx, qs]; rfl, rfl⟩, fun _ h1 => ⟨⟨[], (nx p).left, (nx p).right⟩, ⟨?_, by omega⟩, rfl, rfl⟩, fun _ h1 => ⟨⟨dcs x p.row, (nx p).left, (nx p).right⟩, ⟨⟨r', ?_⟩, ?_⟩, rfl, rfl, rfl⟩⟩, fun h1 => by omega⟩
   · have h1' : p.row.length = 1 := h1
     have : dcs x p.row = [] := List.length_eq_zero_iff.mp (by rw [dcs_length]; omega)
     rw [this] at r'; exact r'
   · have h1' : 2 <= p.row.length := h1
     rw [dcs_length]; omega
   · have h1' : 2 <= p.row.length := h1
     simp only [dcs_length]; omega
 · refine of_eq (q := True /\ True /\ True /\ ((0 : Int) < 0 -> True /\ True /\ False) /\ (¬(0 : Int) < 0 -> ∃ (y : Unit), True /\ (True /\ True /\ True) /\ qs p.left = qs (dvL x l) /\ qs p.right = qs (dvR x l) /\ True)) (by kernel_rfl) ?_
   simp only [zz]
   have hL := hp.L
   have hR := hp.R
   simp only [List.length_nil, divL, divR, List.append_nil] at hL hR
   exact ⟨fun h => by omega, fun _ => ⟨by rw [hL], by rw [hR]⟩⟩
theorem call40 (x : Rat) (D M b : Int) (l : List Rat) (h : Dv D M b x l) : GCall Tryd.prog gl 40 false [.sl Q2 (qs l), ofD Q2 (qp x)] [] [.sl Q2 (qs (dvL x l)), .sl Q2 (qs (dvR x l))] [] := by
 refine gcall_of (X := X40) (X40_ok) (f := 40) (fn := Tryd.f40) (c := bodyOf Tryd.f40) (by kernel_rfl) (by kernel_rfl) (view := true) (rvs := [.tmp 4, .tmp 5]) (by kernel_rfl) (H := (H40 x D M b l)) 80 (by kernel_rfl) ?_
 have hL := loop40 x D M b l h
 refine of_eq (q := (fun (c : Prop) => (fun (a : List Int) => (fun (d : Prop) => c /\ c /\ c /\ c /\ c /\ c /\ c /\ c /\ sumPre (0 : Nat) (qs l).length (nat_lit 16) /\ c /\ LoopOK X40 L40_0 { J := chks (0 : Nat) [(3 : Nat), (6 : Nat), (7 : Nat), (8 : Nat)] (fm40 x D M b l), exits := List.map (fun (x : List Nat × Ex) => x.snd) (ex40 x l) } (RetR X40 false true [ResultVar.tmp (4 : Tmp), ResultVar.tmp (5 : Tmp)] [AV.sl Q2 (qs (dvL x l)), AV.sl Q2 (qs (dvR x l))] []) /\ ((∃ (y : P3), (Rw D M b x l y.row [] [] /\ (1 : Nat) <= y.row.length /\ y.left = [] /\ y.right = []) /\ (c /\ qs l = qs y.row /\ c /\ c /\ c) /\ a = a /\ c) ∨ (∃ (y : P3), (Rw D M b x l y.row y.left y.right /\ (1 : Nat) <= y.row.length) /\ d) ∨ ∃ (y : P3), Rw D M b x l [] y.left y.right /\ d) /\ (∀ (y : Unit), c -> c /\ c /\ c /\ c /\ c /\ (qs (dvL x l) = qs (dvL x l) /\ qs (dvR x l) = qs (dvR x l) /\ c) /\ c) /\ c) ((c /\ False /\ False /\ False /\ c) /\ a = a /\ False)) ([x.num, (x.den : Int)])) (True)) (by kernel_rfl) ?_
 simp only [zz]
 have := h.len
 exact ⟨by unfold sumPre; rw [qs_length]; omega, hL _, ⟨⟨l, [], []⟩, ⟨.first h, h.len.1, rfl, rfl⟩, rfl⟩, fun _ _ => trivial⟩
def rats (l : List (Int × Int)) : List Rat := l.map rat
theorem rats_qs (l : List Rat) : rats (qs l) = l := by
 induction l with
 | nil => rfl
 | cons a l ih => simp only [qs, rats, List.map_cons, rat_qp] at ih |-; rw [ih]
def goodL (l : List (Int × Int)) : Prop := qs (rats l) = l
theorem goodL_qs (l : List Rat) : goodL (qs l) := by unfold goodL; rw [rats_qs]
def e40 : Entry Tryd.prog gl := entry2 40 ⟨Tryd.f40, by kernel_rfl, by kernel_rfl, by kernel_rfl⟩ SQ Q2 (fun l x => goodL l /\ good x /\ ∃ D M b, Dv D M b (rat x) (rats l)) false (fun l x => [.sl Q2 (qs (dvL (rat x) (rats l))), .sl Q2 (qs (dvR (rat x) (rats l)))]) (fun _ _ => []) (fun l x h => by obtain ⟨h1, h2, D, M, b, h3⟩ := h; have := call40 _ D M b _ h3; rwa [h1, h2] at this)
noncomputable def L16_0 : Code := lp (bodyOf Tryd.f16) 0
def st16 (p : List Int) (d k : Nat) (j : Nat) : St := ⟨.dead :: .dead :: .dead :: .ptr 0 0 [] :: .dead :: .sl Q2 (qs (cnr p (d - j) (k / 2 ^ j))) :: .int .i64 (j - 1 : Int) :: dd 26, [.bx (ofD Q2 ((d : Int), (k : Int)))]⟩
def ex16 (p : List Int) (d k : Nat) : List (List Nat × Ex) := [([5], ⟨0, Unit, fun _ => True, fun _ => ⟨.dead :: .dead :: .dead :: .dead :: .dead :: .sl Q2 (qs (cnr p d k)) :: dd 27, []⟩⟩)]
noncomputable def H16 (p : List Int) (d k : Nat) : Nat -> Option Hint := fun _ => some ⟨chk 0 [3, 5, 6] (fun j => j <= d) (st16 p d k), (ex16 p d k).map (·.2)⟩
theorem loop16 (p : List Int) (hp : isPoly p) (d k : Nat) (hd : d <= 6) (hk : k < 2 ^ d) (R : Exit -> St -> Prop) : LoopOK (X [e40]) L16_0 ⟨chk 0 [3, 5, 6] (fun j => j <= d) (st16 p d k), (ex16 p d k).map (·.2)⟩ R := by
 refine loop_ok (X_ok [e40]) (H := fun _ _ => none) [3, 5, 6] (fun j => j <= d) (st16 p d k) (fun j => j) (ex16 p d k) 80 fun j hj => ?_
 refine of_eq (q := (fun (l : Int) => (fun (h : Int) => (fun (g : List Int) => (fun (f : Prop) => (fun (e : Int) => (fun (c : Int) => (fun (i : Prop) => (fun (a : List (Int × Int)) => f /\ f /\ (l <= c -> f /\ f /\ ((goodL a /\ good (e, h) /\ ∃ (D : Int), ∃ (M : Int), ∃ (b : Int), Dv D M b (rat (e, h)) (rats a)) /\ f) /\ f /\ f /\ f /\ f /\ f /\ idxPre e (2 : Nat) /\ f /\ f /\ (l <= c /\ c < bitsOf .i64) /\ ¬h = l /\ f /\ (i -> f /\ f /\ f /\ inR .i64 (c - e) /\ f /\ ∃ (y : Nat), (y <= d /\ y < j) /\ (f /\ qs (dvL (rat (e, h)) (rats a)) = qs (cnr p (d - y) (k / (2 : Nat) ^ y)) /\ c - e = (y : Int) - e /\ f) /\ g = g /\ f) /\ (¬i -> f /\ f /\ f /\ inR .i64 (c - e) /\ f /\ ∃ (y : Nat), (y <= d /\ y < j) /\ (f /\ qs (dvR (rat (e, h)) (rats a)) = qs (cnr p (d - y) (k / (2 : Nat) ^ y)) /\ c - e = (y : Int) - e /\ f) /\ g = g /\ f)) /\ (¬l <= c -> ∃ (y : Unit), f /\ (a = qs (cnr p d k) /\ f) /\ f)) (qs (cnr p (d - j) (k / (2 : Nat) ^ j)))) (((k : Int) / h ^ c.toNat).tmod h = l)) ((j : Int) - e)) ((1 : Int))) (True)) ([(d : Int), (k : Int)])) ((2 : Int))) ((0 : Int))) (by kernel_rfl) ?_
 simp only [zz]
 refine ⟨fun h => ?_, fun h => by rw [show j = 0 by omega]; simp⟩
 obtain ⟨j, rfl⟩ : ∃ i, j = i + 1 := ⟨j - 1, by omega⟩
 have e : ((j + 1 : Nat) : Int) - 1 = (j : Int) := by omega
 obtain ⟨m, hm⟩ : ∃ m, d - j = m + 1 := ⟨d - j - 1, by omega⟩
 have hm2 : d - (j + 1) = m := by omega
 have hc := cnr_dv hp.2.2 hp.1 hp.2.1 m (k / 2 ^ (j + 1)) (by omega)
 have e2 : k / 2 ^ (j + 1) = k / 2 ^ j / 2 := by rw [Nat.pow_succ, Nat.div_div_eq_div_mul]
 have e3 : ((k : Int) / 2 ^ j).tmod 2 = ((k / 2 ^ j % 2 : Nat) : Int) := by
   rw [show ((k : Int) / 2 ^ j) = ((k / 2 ^ j : Nat) : Int) by rw [Int.natCast_ediv, Int.natCast_pow]; rfl]
   rfl
 rw [e, Int.toNat_natCast, rats_qs, rat_half, hm2, e3]
 refine ⟨⟨goodL_qs _, good_half, _, _, _, hc.2 (by omega)⟩, i12, by simp only [bitsOf]; omega, by omega, fun h0 => ⟨by simp only [inR]; omega, j, by omega, ?_, by omega⟩, fun h0 => ⟨by simp only [inR]; omega, j, by omega, ?_, by omega⟩⟩
 · rw [hm]; conv => rhs; unfold cnr
   rw [if_pos (by omega), e2]
 · rw [hm]; conv => rhs; unfold cnr
   rw [if_neg (by omega), e2]
theorem call16 (p : List Int) (d k : Nat) (h : isPoly p /\ d <= 6 /\ k < 2 ^ d) : GCall Tryd.prog gl 16 false [.sl I64 p, ofD Q2 ((d : Int), (k : Int))] [] [.sl Q2 (qs (cnr p d k))] [] := by
 refine gcall_of (X := X [e60,e40]) (X_ok [e60,e40]) (f := 16) (fn := Tryd.f16) (c := bodyOf Tryd.f16) (by kernel_rfl) (by kernel_rfl) (view := false) (rvs := [.tmp 4]) (by kernel_rfl) (H := (H16 p d k)) 80 (by kernel_rfl) ?_
 have hL := loop16 p h.1 d k h.2.1 h.2.2
 refine of_eq (q := (fun (b : Prop) => (fun (a : List (Int × Int)) => b /\ b /\ b /\ (((1 : Nat) <= p.length /\ p.length <= 7 /\ coefs p) /\ b) /\ b /\ idxPre (0 : Int) (2 : Nat) /\ b /\ inR .i64 ((d : Int) - 1) /\ b /\ LoopOK (X [e40]) L16_0 { J := chk (0 : Nat) [(3 : Nat), (5 : Nat), (6 : Nat)] (fun (j : Nat) => j <= d) (st16 p d k), exits := List.map (fun (x : List Nat × Ex) => x.snd) (ex16 p d k) } (RetR (X [e60, e40]) false false [ResultVar.tmp (4 : Tmp)] [AV.sl Q2 a] []) /\ (∃ (y : Nat), y <= d /\ (b /\ qs (whole p) = qs (cnr p (d - y) (k / (2 : Nat) ^ y)) /\ (d : Int) - 1 = (y : Int) - 1 /\ b) /\ [(d : Int), (k : Int)] = [(d : Int), (k : Int)] /\ b) /\ (∀ (y : Unit), b -> b /\ b /\ b /\ (a = a /\ b) /\ b) /\ b) (qs (cnr p d k))) (True)) (by kernel_rfl) ?_
 simp only [zz]
 refine ⟨h.1, i02, by simp only [inR]; omega, hL _, ⟨d, Nat.le_refl _, ?_, rfl⟩, fun _ _ => trivial⟩
 rw [Nat.sub_self, Nat.div_eq_of_lt h.2.2]; try rfl
theorem call16' (p : List Int) (x : Int × Int) (h : isPoly p /\ isPiece x) : GCall Tryd.prog gl 16 false [.sl I64 p, ofD Q2 x] [] [.sl Q2 (qs (cnr p x.1.toNat x.2.toNat))] [] := by
 have h2 : isPiece x := h.2
 unfold isPiece at h2
 have e : ((2 ^ x.1.toNat : Nat) : Int) = 2 ^ x.1.toNat := by rw [Int.natCast_pow]; try rfl
 have := call16 p x.1.toNat x.2.toNat ⟨h.1, by omega, by omega⟩
 rw [Int.toNat_of_nonneg h2.1, Int.toNat_of_nonneg h2.2.2.1] at this
 exact this
def e16 : Entry Tryd.prog gl := entry2 16 ⟨Tryd.f16, by kernel_rfl, by kernel_rfl, by kernel_rfl⟩ SI Q2 (fun p x => isPoly p /\ isPiece x) false (fun p x => [.sl Q2 (qs (cnr p x.1.toNat x.2.toNat))]) (fun _ _ => []) (call16')
end Go.Am.Bern

/- Bern: the program's divisions. -/
namespace Go.Am.Bern
open Go Go.Am Go.Proofs
noncomputable def L83_0 : Code := lp (bodyOf Tryd.f83) 0
noncomputable def L83_2 : Code := lp (bodyOf Tryd.f83) 2
def bxF (x : Rat) : Ob := .bx (ofD FR (qp x))
def sF (l : List (Int × Int)) : Ob := .sc 0 106 FR l
def res83 : Ob := .bx (.ar SF 2 [[], []])
structure P4 where
 row : List Rat
 left : List Rat
 right : List Rat
 junk : List (Int × Int)
def zs (n : Nat) : List (Int × Int) := List.replicate n (0, 0)
def st83 (x : Rat) (p : P4) : St := ⟨.dead :: .dead :: .dead :: .ptr 0 0 [] :: .ptr 1 0 [] :: .ptr 2 0 [] :: .dead :: .ptr 3 0 [] :: .own 4 0 :: .own 5 0 :: .int .i64 p.row.length :: dd 66,
 [bxF x, res83, .bx (.ar FR 7 (qs p.row ++ p.junk)), bxF (1 - x), sF (qs p.left), sF (zs p.row.length ++ qs p.right)]⟩
def inv83 (D M b : Int) (x : Rat) (l : List Rat) (p : P4) : Prop := Rw D M b x l p.row p.left p.right /\ p.row.length + p.junk.length = 7
def ex83 (x : Rat) (l : List Rat) : List (List Nat × Ex) := [([4, 8, 9], ⟨0, Unit, fun _ => True, fun _ => ⟨.dead :: .dead :: .dead :: .dead :: .ptr 0 0 [] :: .dead :: .dead :: .dead :: .own 1 0 :: .own 2 0 :: dd 67, [res83, sF (qs (dvL x l)), sF (qs (dvR x l))]⟩⟩)]
def arr83 (x : Rat) (p : P4) (i : Nat) : List (Int × Int) := qs ((dcs x p.row).take i) ++ ((qs p.row).drop i ++ p.junk)
def sj83 (x : Rat) (p : P4) (i : Nat) : St := ⟨.dead :: .dead :: .dead :: .ptr 0 0 [] :: .ptr 1 0 [] :: .ptr 2 0 [] :: .dead :: .ptr 3 0 [] :: .own 4 0 :: .own 5 0 :: .int .i64 p.row.length :: .sub 2 0 [] 0 p.row.length :: .dead :: dd 39 ++ (.int .i64 (p.row.length - 1 : Int) :: .int .i64 i :: dd 23),
 [bxF x, res83, .bx (.ar FR 7 (arr83 x p i)), bxF (1 - x), sF (qs p.left), sF (zs (p.row.length - 1) ++ qs p.right)]⟩
def ej83 (x : Rat) (p : P4) : List (List Nat × Ex) := [([3, 4, 5, 7, 8, 9, 10], ⟨2, Unit, fun _ => True, fun _ => ⟨.dead :: .dead :: .dead :: .ptr 0 0 [] :: .ptr 1 0 [] :: .ptr 2 0 [] :: .dead :: .ptr 3 0 [] :: .own 4 0 :: .own 5 0 :: .int .i64 p.row.length :: dd 66,
 [bxF x, res83, .bx (.ar FR 7 (arr83 x p (p.row.length - 1))), bxF (1 - x), sF (qs p.left), sF (zs (p.row.length - 1) ++ qs p.right)]⟩⟩)]
def nx83 (p : P4) : P4 := ⟨p.row, p.left ++ [p.row.getD 0 0], p.row.getD (p.row.length - 1) 0 :: p.right, p.junk⟩
theorem getD_app {α : Type} {a b : List α} {n k : Nat} {d : α} (h : a.length = n) : (a ++ b).getD (n + k) d = b.getD k d := by
 subst h; simp [List.getD_eq_getElem?_getD, List.getElem?_append_right]
theorem set_app {α : Type} {a b : List α} {n : Nat} {v : α} (h : a.length = n) : (a ++ b).set n v = a ++ b.set 0 v := by
 subst h; rw [List.set_append_right _ _ (by omega), Nat.sub_self]
theorem arr_pre (x : Rat) (p : P4) {i : Nat} (hi : i + 1 <= p.row.length) : (qs ((dcs x p.row).take i)).length = i := by
 rw [qs_length, List.length_take, dcs_length]; omega
theorem arr_get (x : Rat) (p : P4) {i k : Nat} (hi : i + 1 <= p.row.length) (hk : i + k < p.row.length) : (arr83 x p i).getD (i + k) (0, 0) = qp (p.row.getD (i + k) 0) := by
 have h := arr_pre x p hi
 unfold arr83
 rw [getD_app h, getD_append_left (by rw [List.length_drop, qs_length]; omega)]
 rw [<- qs_getD hk]
 simp only [List.getD_eq_getElem?_getD, List.getElem?_drop]
theorem arr_set (x : Rat) (p : P4) {i : Nat} (hi : i + 1 < p.row.length) : (arr83 x p i).set i (qp (avg x (p.row.getD i 0) (p.row.getD (i + 1) 0))) = arr83 x p (i + 1) := by
 have h := arr_pre x p (i := i) (by omega)
 unfold arr83
 rw [set_app h, drop_getD (d := (0, 0)) (n := i) (by rw [qs_length]; omega), List.cons_append, List.set_cons_zero, dcs_take x hi]
 simp [qs]
theorem Dv.bsmall {D M b : Int} {x : Rat} {l : List Rat} (h : Dv D M b x l) : b < 4294967296 := by
 have h2 := h.pow (j := 2) (by omega)
 have hb := h.b1
 have hD := h.hD
 refine Int.not_le.mp fun hge => ?_
 have e : b ^ 2 = b * b := by rw [Int.pow_succ, Int.pow_one]
 have h3 : (4294967296 : Int) * 4294967296 <= b * b := Int.mul_le_mul hge hge (by omega) (by omega)
 have h4 := Int.mul_le_mul_of_nonneg_right (show 1 <= D by omega) (show 0 <= b * b by omega)
 rw [e] at h2
 omega
theorem one_sub_ok {D M b : Int} {x : Rat} {l : List Rat} (h : Dv D M b x l) : addOk 1 (-x) := by
 have hb := h.b1; have hs := h.bsmall; have hx := h.hx; have e := h.hb
 refine ⟨b, b, b, by omega, by omega, ⟨b, (Rat.divInt_self' (by omega)).symm, by omega, by omega⟩, ?_, by omega⟩
 refine fr.neg ⟨x.num, ?_, by omega, by omega⟩
 rw [<- e, Rat.num_divInt_den]
noncomputable def H83 (x : Rat) (D M b : Int) (l : List Rat) (p : P4) : Nat -> Option Hint
 | 0 => some ⟨chk 0 [3, 4, 5, 7, 8, 9, 10] (inv83 D M b x l) (st83 x), (ex83 x l).map (·.2)⟩
 | 2 => some ⟨chk 0 [3, 4, 5, 7, 8, 9, 10, 11, 52, 53] (fun i => i + 1 <= p.row.length) (sj83 x (nx83 p)), (ej83 x (nx83 p)).map (·.2)⟩
 | _ => none
theorem loop83_2 (x : Rat) (p : P4) (D M b : Int) (l left right : List Rat) (h : Dv D M b x l) (r : Rw D M b x l p.row left right) (h0 : 1 <= p.row.length) (hj : p.row.length + p.junk.length = 7) (R : Exit -> St -> Prop) :
   LoopOK (X [e81, e82]) L83_2 ⟨chk 0 [3, 4, 5, 7, 8, 9, 10, 11, 52, 53] (fun i => i + 1 <= p.row.length) (sj83 x p), (ej83 x p).map (·.2)⟩ R := by
 refine loop_ok (X_ok [e81, e82]) (H := fun _ _ => none) [3, 4, 5, 7, 8, 9, 10, 11, 52, 53] (fun i => i + 1 <= p.row.length) (sj83 x p) (fun i => p.row.length - i) (ej83 x p) 90 fun i hi => ?_
 refine of_eq (q := (fun (w : Int) => (fun (v : Nat) => (fun (r : List (Int × Int)) => (fun (q : Int) => (fun (o : Int) => (fun (l : Int) => (fun (k : Int) => (fun (j : Prop) => (fun (h : Prop) => (fun (g : Int) => (fun (f : Nat) => (fun (u : List (Int × Int)) => (fun (m : Int) => (fun (e : Prop) => (fun (d : Int × Int) => (fun (c : Int × Int) => (fun (b : Rat) => (fun (t : Int × Int) => (fun (a : Rat) => (fun (s : Int × Int) => (fun (n : Rat) => h /\ (l < m - q -> h /\ h /\ h /\ h /\ h /\ h /\ idxPre l f /\ h /\ h /\ (good (d.fst, d.snd) /\ good (o, g) /\ mulOk (rat (d.fst, d.snd)) (rat (o, g))) /\ h /\ h /\ inR .i64 (l + q) /\ idxPre (l + q) f /\ h /\ h /\ (good (c.fst, c.snd) /\ good (w, k) /\ mulOk (rat (c.fst, c.snd)) (rat (w, k))) /\ (good s /\ good t /\ addOk (rat s) (rat t)) /\ idxPre l f /\ h /\ inR .i64 (l + q) /\ h /\ ∃ (y : Nat), (y + 1 <= f /\ f - y < f - i) /\ (h /\ h /\ h /\ h /\ h /\ h /\ m = m /\ (v = v /\ f = f) /\ m - q = m - q /\ l + q = (y : Int) /\ h) /\ (w = w /\ k = k /\ h) /\ j /\ r.set (v + i) (n.num, (n.den : Int)) = arr83 x p y /\ e) /\ (¬l < m - q -> ∃ (y : Unit), h /\ (h /\ h /\ h /\ h /\ h /\ h /\ m = m /\ h) /\ (w = w /\ k = k /\ h) /\ j /\ r = arr83 x p (f - 1) /\ e)) (rat s + rat t)) ((a.num, (a.den : Int)))) (rat (d.fst, d.snd) * rat (o, g))) ((b.num, (b.den : Int)))) (rat (c.fst, c.snd) * rat (w, k))) (r.getD (v + (i + 1)) (0, 0))) (r.getD (v + i) (0, 0))) ((o = o /\ g = g /\ h) /\ qs p.left = qs p.left /\ u = u /\ h)) ((f : Int))) (zs (f - 1) ++ qs p.right)) (p.row.length)) ((↑((1 : Rat) - x).den : Int))) (True)) (([] : List (Int × Int)) :: ([] : List (Int × Int)) :: ([] : List (List (Int × Int))) = [[], []])) ((x.den : Int))) ((i : Int))) (((1 : Rat) - x).num)) ((1 : Int))) (arr83 x p i)) ((0 : Nat))) (x.num)) (by kernel_rfl) ?_
 simp only [zz]
 have hlr : p.row.length <= 7 := by omega
 refine ⟨fun h2 => ?_, fun h2 => by rw [show i = p.row.length - 1 by omega]⟩
 have ok := Rw.avg h r (k := i) (by omega)
 have a0 := arr_get x p (i := i) (k := 0) hi (by omega)
 have a1 := arr_get x p (i := i) (k := 1) hi (by omega)
 have ast := arr_set x p (i := i) (by omega)
 simp only [Nat.add_zero] at a0
 simp only [Nat.zero_add]
 rw [a0, a1]
 simp only [qp_fst, qp_snd, rat_num_den]
 exact ⟨idx_nat (by omega), ⟨good_nd _, good_nd _, ok.1⟩, by simp only [inR]; omega, by unfold idxPre; omega, ⟨good_nd _, good_nd _, ok.2.1⟩, ⟨good_nd _, good_nd _, ok.2.2⟩, idx_nat (by omega), by simp only [inR]; omega, i + 1, by omega, by simp, ast⟩
theorem loop83 (x : Rat) (D M b : Int) (l : List Rat) (h : Dv D M b x l) (R : Exit -> St -> Prop) : LoopOK (X [e81, e82]) L83_0 ⟨chk 0 [3, 4, 5, 7, 8, 9, 10] (inv83 D M b x l) (st83 x), (ex83 x l).map (·.2)⟩ R := by
 refine loop_ok (X_ok [e81, e82]) (H := fun p => H83 x D M b l p) [3, 4, 5, 7, 8, 9, 10] (inv83 D M b x l) (st83 x) (fun p => p.row.length) (ex83 x l) 90 fun p hp => ?_
 have hL : 1 <= p.row.length -> ∀ R, LoopOK (X [e81, e82]) L83_2 ⟨chk 0 [3, 4, 5, 7, 8, 9, 10, 11, 52, 53] (fun i => i + 1 <= p.row.length) (sj83 x (nx83 p)), (ej83 x (nx83 p)).map (·.2)⟩ R := fun h0 R => loop83_2 x (nx83 p) D M b l p.left p.right h hp.1 h0 hp.2 R
 refine of_eq (q := (fun (w : Rat) => (fun (u : List (Int × Int)) => (fun (s : Nat) => (fun (r : Int) => (fun (o : Nat) => (fun (k : List (Int × Int)) => (fun (f : Prop) => (fun (q : Prop) => (fun (h : Prop) => (fun (e : Prop) => (fun (d : Int × Int) => (fun (c : P4) => (fun (n : Nat) => (fun (v : List (Int × Int)) => (fun (t : Int) => (fun (a : Int) => (fun (j : Int) => (fun (m : Int × Int) => (fun (g : Nat) => f /\ f /\ (r < a -> f /\ f /\ slPre (7 : Nat) (7 : Nat) none (some a) (some a) /\ f /\ f /\ f /\ idxPre r g /\ f /\ f /\ sumPre (qs p.left).length [(d.fst, d.snd)].length (nat_lit 16) /\ f /\ f /\ f /\ inR .i64 j /\ f /\ f /\ inR .i64 j /\ idxPre j g /\ f /\ idxPre j k.length /\ f /\ f /\ inR .i64 j /\ f /\ LoopOK (X [e81, e82]) L83_2 { J := chk (0 : Nat) [(3 : Nat), (4 : Nat), (5 : Nat), (7 : Nat), (8 : Nat), (9 : Nat), (10 : Nat), (11 : Nat), (52 : Nat), (53 : Nat)] (fun (i : Nat) => i + 1 <= s) (sj83 x c), exits := List.map (fun (x : List Nat × Ex) => x.snd) (ej83 x c) } (bodyR (X [e81, e82]).m0 (ex83 x l) R) /\ (∃ (y : Nat), y + 1 <= s /\ (f /\ f /\ f /\ f /\ f /\ f /\ a = (n : Int) /\ (o = 0 /\ g = n) /\ j = t /\ r = (y : Int) /\ f) /\ q /\ e /\ u = arr83 x c y /\ h /\ qs p.left ++ [(d.fst, d.snd)] = qs c.left /\ k.set j.toNat (m.fst, m.snd) = v /\ f) /\ (∀ (y : Unit), f -> f /\ inR .i64 t /\ f /\ ∃ (y : P4), (inv83 D M b x l y /\ y.row.length < s) /\ (f /\ f /\ f /\ f /\ f /\ f /\ t = (y.row.length : Int) /\ f) /\ q /\ e /\ arr83 x c (n - 1) = qs y.row ++ y.junk /\ h /\ qs c.left = qs y.left /\ v = zs y.row.length ++ qs y.right /\ f) /\ f) /\ (¬r < a -> ∃ (y : Unit), f /\ (f /\ f /\ f /\ f) /\ e /\ qs p.left = qs (dvL x l) /\ k = qs (dvR x l) /\ f)) (bHi (7 : Nat) (some a) - o)) (u.getD (o + j.toNat) (r, r))) (a - 1)) ((s : Int))) ((n : Int) - 1)) (zs (n - 1) ++ qs c.right)) (c.row.length)) (nx83 p)) (u.getD o (r, r))) (([] : List (Int × Int)) :: ([] : List (Int × Int)) :: ([] : List (List (Int × Int))) = [[], []])) (w.num = w.num /\ (w.den : Int) = (w.den : Int) /\ f)) (x.num = x.num /\ (x.den : Int) = (x.den : Int) /\ f)) (True)) (zs s ++ qs p.right)) (bLo none)) ((0 : Int))) (p.row.length)) (qs p.row ++ p.junk)) ((1 : Rat) - x)) (by kernel_rfl) ?_
 simp only [zz]
 obtain ⟨r, hj⟩ := hp
 have hl := r.lens
 have hn := h.len
 have hqr := qs_length p.row
 have hzl : (zs p.row.length).length = p.row.length := by simp [zs]
 simp only [bLo, bHi, Int.toNat_natCast, Nat.sub_zero, Nat.zero_add]
 refine ⟨fun h0 => ?_, fun h0 => ?_⟩
 · have h0' : 1 <= p.row.length := by omega
   have r' := r.next h h0'
   have e3 : ((p.row.length : Int) - 1).toNat = p.row.length - 1 := by omega
   have g0 : (qs p.row ++ p.junk).getD 0 (0, 0) = qp (p.row.getD 0 0) := by rw [getD_append_left (by omega), qs_getD (by omega)]
   have g1 : (qs p.row ++ p.junk).getD (p.row.length - 1) (0, 0) = qp (p.row.getD (p.row.length - 1) 0) := by rw [getD_append_left (by omega), qs_getD (by omega)]
   have hz : (zs p.row.length ++ qs p.right).set (p.row.length - 1) (qp (p.row.getD (p.row.length - 1) 0)) = zs (p.row.length - 1) ++ qs (nx83 p).right := by
     obtain ⟨n, hn'⟩ : ∃ n, p.row.length = n + 1 := ⟨p.row.length - 1, by omega⟩
     have : zs p.row.length = zs n ++ [(0, 0)] := by rw [hn']; simp [zs, List.replicate_succ']
     rw [this, List.append_assoc, hn', Nat.add_sub_cancel]
     rw [set_app (by simp [zs])]
     simp [zs, nx83, qs, hn']
   rw [e3, g0, g1]
   refine ⟨by simp only [slPre, bLo, bHi]; omega, by unfold idxPre; omega, by unfold sumPre; simp [qs_length]; omega, by simp only [inR]; omega, by simp only [inR]; omega, by unfold idxPre; omega, by unfold idxPre; simp only [List.length_append, hzl]; omega, by simp only [inR]; omega, hL h0' _, ⟨0, by omega, ⟨rfl, ⟨trivial, rfl⟩, rfl, rfl⟩, by simp [arr83, nx83, qs], by simp [nx83, qs]; rfl, hz⟩, fun _ _ => ⟨by simp only [nx83, inR]; omega, ⟨dcs x p.row, (nx83 p).left, (nx83 p).right, qp (p.row.getD (p.row.length - 1) 0) :: p.junk⟩, ⟨⟨r', ?_⟩, ?_⟩, ?_, ?_, rfl, ?_⟩⟩
   · simp only [List.length_cons, dcs_length]; omega
   · simp only [dcs_length]; omega
   · simp only [nx83, dcs_length]; omega
   · have hd : (qs p.row).drop (p.row.length - 1) = [qp (p.row.getD (p.row.length - 1) 0)] := by
       rw [drop_getD (d := (0, 0)) (by omega), qs_getD (by omega), List.drop_of_length_le (by omega)]
     simp only [arr83, nx83]
     rw [hd, List.take_of_length_le (by rw [dcs_length]; omega)]; try rfl
   · simp only [nx83, dcs_length]
 · have hr0 : p.row = [] := List.length_eq_zero_iff.mp (by omega)
   have hL := r.L
   have hR := r.R
   rw [hr0] at hL hR
   simp only [List.length_nil, divL, divR, List.append_nil] at hL hR
   exact ⟨by rw [hL], by rw [hr0, hR]; rfl⟩
theorem call83 (x : Rat) (D M b : Int) (l : List Rat) (h : Dv D M b x l) : GCall Tryd.prog gl 83 false [.sl FR (qs l), ofD FR (qp x)] [] [.ar SF 2 [qs (dvL x l), qs (dvR x l)]] [] := by
 refine gcall_of (X := X [e81,e82]) (X_ok [e81,e82]) (f := 83) (fn := Tryd.f83) (c := bodyOf Tryd.f83) (by kernel_rfl) (by kernel_rfl) (view := false) (rvs := [.cell 4 117]) (by kernel_rfl) (H := (H83 x D M b l ⟨[],[],[],[]⟩)) 100 (by kernel_rfl) ?_
 have hL := loop83 x D M b l h
 refine of_eq (q := (fun (n : List (Int × Int)) => (fun (m : Int) => (fun (k : Int) => (fun (j : List (List (Int × Int))) => (fun (i : Option Int) => (fun (g : Rat) => (fun (f : Rat) => (fun (d : Prop) => (fun (c : Int × Int) => (fun (a : Nat) => (fun (h : Int) => (fun (e : Prop) => d /\ d /\ d /\ slPre (7 : Nat) (7 : Nat) i i i /\ d /\ d /\ d /\ d /\ d /\ d /\ inR .i64 (-x.num) /\ d /\ d /\ d /\ ((good ((1 : Int), (1 : Int)) /\ good (-x.num, k) /\ addOk g f) /\ d) /\ d /\ d /\ d /\ (m <= m /\ m <= h /\ e) /\ d /\ d /\ (m <= h /\ h <= h /\ e) /\ d /\ d /\ d /\ LoopOK (X [e81, e82]) L83_0 { J := chk (0 : Nat) [(3 : Nat), (4 : Nat), (5 : Nat), (7 : Nat), (8 : Nat), (9 : Nat), (10 : Nat)] (inv83 D M b x l) (st83 x), exits := List.map (fun (x : List Nat × Ex) => x.snd) (ex83 x l) } (RetR (X [e81, e82]) false false [ResultVar.cell (4 : Tmp) (117 : TypeId)] [AV.ar SF (2 : Nat) [qs (dvL x l), qs (dvR x l)]] []) /\ (∃ (y : P4), inv83 D M b x l y /\ (d /\ d /\ d /\ d /\ d /\ d /\ h = (y.row.length : Int) /\ d) /\ (x.num = x.num /\ k = k /\ d) /\ n :: n :: ([] : List (List (Int × Int))) = [[], []] /\ List.take (bLo i) [c, c, c, c, c, c, c] ++ (List.take a (qs l) ++ List.drop (bLo i + a) [c, c, c, c, c, c, c]) = qs y.row ++ y.junk /\ ((g + f).num = ((1 : Rat) - x).num /\ (↑(g + f).den : Int) = (↑((1 : Rat) - x).den : Int) /\ d) /\ n = qs y.left /\ List.replicate a ((Ty.int .i64).s2 (Ty.int .i64)).dflt = zs y.row.length ++ qs y.right /\ d) /\ (∀ (y : Unit), d -> d /\ d /\ d /\ d /\ (d /\ d) /\ (j = j /\ d) /\ d) /\ d) (h * (↑(nat_lit 16) : Int) <= 140737488355328 /\ h <= 140737488355328)) ((a : Int))) (Min.min (qs l).length (bHi (7 : Nat) i - bLo i))) ((m, m))) (True)) (rat (-x.num, k))) (rat ((1 : Int), (1 : Int)))) (none)) ([qs (dvL x l), qs (dvR x l)])) ((x.den : Int))) ((0 : Int))) (([] : List (Int × Int)))) (by kernel_rfl) ?_
 simp only [zz]
 have hn := h.len
 have hq := qs_length l
 have e1 : ((1 : Int) : Rat) = 1 := rfl
 have e2 : rat (-x.num, (x.den : Int)) = -x := rat_num_den (-x)
 have hx := h.hx
 have hbs := h.bsmall
 have hbe := h.hb
 simp only [bLo, bHi, Nat.sub_zero, Nat.zero_add]
 rw [hq, show min l.length 7 = l.length by omega, e1, e2, <- Rat.sub_eq_add_neg]
 refine ⟨by simp [slPre, bLo, bHi], by simp only [inR]; omega, ⟨good_int 1, good_nd (-x), one_sub_ok h⟩, by omega, by omega, hL _, ⟨⟨l, [], [], zs (7 - l.length)⟩, ⟨.first h, by simp [zs]; omega⟩, rfl, ?_, ⟨rfl, rfl⟩, rfl, (List.append_nil _).symm⟩, fun _ _ => trivial⟩
 · rw [List.take_zero, List.nil_append, List.take_of_length_le (by omega)]
   congr 1
   rw [show ([(0, 0), (0, 0), (0, 0), (0, 0), (0, 0), (0, 0), (0, 0)] : List (Int × Int)) = List.replicate 7 (0, 0) from rfl, List.drop_replicate]; try rfl
def e83 : Entry Tryd.prog gl := entry2 83 ⟨Tryd.f83, by kernel_rfl, by kernel_rfl, by kernel_rfl⟩ SF FR (fun l x => goodL l /\ good x /\ ∃ D M b, Dv D M b (rat x) (rats l)) false (fun l x => [.ar SF 2 [qs (dvL (rat x) (rats l)), qs (dvR (rat x) (rats l))]]) (fun _ _ => []) (fun l x h => by obtain ⟨h1, h2, D, M, b, h3⟩ := h; have := call83 _ D M b _ h3; rwa [h1, h2] at this)
end Go.Am.Bern

/- Bern: curves, with corners that are known. -/
namespace Go.Am.Bern
open Go Go.Am Go.Proofs
abbrev Memo := List ((Int × Int) × List (Int × Int))
noncomputable def Xm (l : EL) (m0 : Nat) (dr : Nat -> Option Nat) : Cy := mkX Tryd.prog tt gl l m0 dr
theorem Xm_ok (l : EL) (m0 : Nat) (dr : Nat -> Option Nat) : (Xm l m0 dr).Ok := mkX_ok tt_ok l m0 dr
def mget (m : Memo) (q : Int × Int) : Option (List (Int × Int)) := mGet FR m q
def mput (m : Memo) (q : Int × Int) (v : List (Int × Int)) : Memo := mPut FR m q v
def qc (p : List Int) (d k : Nat) : List (Int × Int) := qs (cnr p d k)
def cm (p : List Int) : Nat -> Nat -> Memo -> Memo
 | 0, k, m => match mget m (0, k) with
   | some _ => m
   | none => mput m (0, k) (qc p 0 k)
 | d + 1, k, m => match mget m ((d + 1 : Nat), k) with
   | some _ => m
   | none => mput (cm p d (k / 2) m) ((d + 1 : Nat), k) (qc p (d + 1) k)
def memoOk (p : List Int) (m : Memo) : Prop := ∀ d k : Nat, ∀ v, mget m ((d : Int), (k : Int)) = some v -> v = qc p d k
theorem mget_put (m : Memo) (q q' : Int × Int) (v : List (Int × Int)) : mget (mput m q v) q' = if q' = q then some v else mget m q' := by
 induction m with
 | nil =>
   simp only [mput, mPut, mget, mGet]
   split
   · rename_i h _; rw [if_pos h]
   · rename_i h _; rw [if_neg h]
 | cons e m ih =>
   simp only [mput, mPut, mget] at ih |-
   split
   · rename_i h _
     simp only [mGet]
     split
     · rename_i h2 _; rw [if_pos h2]
     · rename_i h2 _
       rw [if_neg h2]
       split
       · rename_i h3 _; exact absurd (h3.trans h.symm) h2
       · rfl
   · rename_i h _
     simp only [mGet]
     split
     · rename_i h2 _
       rw [if_neg (fun e' => h (e'.symm.trans h2))]
     · exact ih
theorem cm_ok {p : List Int} : ∀ {d k : Nat} {m : Memo}, memoOk p m -> memoOk p (cm p d k m)
 | 0, k, m, h => by
   unfold cm
   split
   · exact h
   · intro d' k' v hv
     rw [mget_put] at hv
     split at hv
     · rename_i e
       injection e with e1 e2
       have h1 : d' = 0 := by omega
       have h2 : k' = k := by omega
       subst h1 h2
       injection hv with hv; exact hv.symm
     · exact h d' k' v hv
 | d + 1, k, m, h => by
   unfold cm
   split
   · exact h
   · intro d' k' v hv
     rw [mget_put] at hv
     split at hv
     · rename_i e
       injection e with e1 e2
       have h1 : d' = d + 1 := by omega
       have h2 : k' = k := by omega
       subst h1 h2
       injection hv with hv; exact hv.symm
     · exact cm_ok h d' k' v hv
def castM (k v : Ty) (m : List (k.D × v.D)) : Option Memo := if h : k = FR /\ v = SF then some (cast (by rw [h.1, h.2]) m) else none
theorem castM_some {k v : Ty} {m : List (k.D × v.D)} {n : Memo} (h : castM k v m = some n) : (Ob.mo k v m) = .mo FR SF n := by
 unfold castM at h
 split at h <;> try (cases h; done)
 rename_i e
 obtain ⟨rfl, rfl⟩ := e
 injection h with h; subst h; try rfl
def cvO (p : List Int) : Ob := .bx (.agg [.sl I64 p, .mp 1])
def mmO (m : Memo) : Ob := .mo FR SF m
def unCv : Ob -> Option (List Int)
 | .bx (.agg [.sl e xs, .mp 1]) => castL e I64 xs
 | _ => none
theorem unCv_some {x : Ob} {p : List Int} (h : unCv x = some p) : x = cvO p := by
 unfold unCv at h
 split at h <;> try (cases h; done)
 obtain ⟨rfl, h⟩ := castL_some h
 subst h; try rfl
def unMm : Ob -> Option Memo
 | .mo k v m => castM k v m
 | _ => none
theorem unMm_some {x : Ob} {m : Memo} (h : unMm x = some m) : x = mmO m := by
 unfold unMm at h
 split at h <;> try (cases h; done)
 exact castM_some h
def unP0 : AV -> Bool
 | .ptr 0 0 [] => true
 | _ => false
theorem unP0_some {x : AV} (h : unP0 x = true) : x = .ptr 0 0 [] := by
 unfold unP0 at h
 split at h
 · rfl
 · cases h
/-- A function of a curve and a piece. -/
def entryC (f : FuncId) (en : Enters Tryd.prog f) (pre : List Int -> Memo -> Int × Int -> Prop) (res : List Int -> Memo -> Int × Int -> List AV) (mm : List Int -> Memo -> Int × Int -> Memo)
   (ok : ∀ p m q, pre p m q -> GCall Tryd.prog gl f false [.ptr 0 0 [], ofD FR q] [cvO p, mmO m] (res p m q) [cvO p, mmO (mm p m q)]) : Entry Tryd.prog gl where
 f := f
 lend := true
 en := en
 go := fun args ob0 => match args, ob0 with
   | [x, y], [c, m] => (match unP0 x, toD FR y, unCv c, unMm m with
     | true, some q, some p, some m => some (pre p m q, false, res p m q, [cvO p, mmO (mm p m q)])
     | _, _, _, _ => none)
   | _, _ => none
 ok := by
   intro args ob0 p s r o h hp
   split at h <;> try (cases h; done)
   rename_i x y c m
   split at h <;> try (cases h; done)
   rename_i q p' m' hx hy hc hm
   injection h with h; injection h with h1 h2; injection h2 with h2 h3; injection h3 with h3 h4
   subst h1 h2 h3 h4
   rw [unCv_some hc, unMm_some hm]
   have hx := unP0_some hx
   subst hx
   refine (ok p' m' q hp).args rfl fun i z hz => ?_
   match i with
   | 0 => simp at hz; subst hz; exact ⟨_, rfl, fun E I F w u hu => hu⟩
   | 1 => simp at hz; subst hz; exact ⟨y, rfl, fun E I F w u hu => TR.toD hy hu⟩
   | i + 2 => simp at hz
end Go.Am.Bern

/- Bern: the corners on a piece, as the program makes them. -/
namespace Go.Am.Bern
open Go Go.Am Go.Proofs
noncomputable def L69_0 : Code := lp (bodyOf Tryd.f69) 0
noncomputable def L69_2 : Code := lp (bodyOf Tryd.f69) 2
def qb (q : Int × Int) : Ob := .bx (ofD FR q)
def bO (n : Nat) : Ob := .bx (.ar I64 7 (brow n))
noncomputable def X69 (l : EL) : Cy := Xm ([e77, e74, e82, e83] ++ l) 2 (drOf [(20, 9016)])
theorem X69_ok (l : EL) : (X69 l).Ok := Xm_ok _ _ _
/-- The whole: the outer loop. -/
def sz69 (p : List Int) (m : Memo) (_ : Unit) : St := ⟨.ptr 0 0 [] :: .dead :: .dead :: .ptr 2 0 [] :: .dead :: .dead :: .dead :: .int .i64 (p.length - 1 : Int) :: nl :: .ptr 3 0 [] :: dd 27 ++ (.int .i64 p.length :: .int .i64 0 :: dd 55), [cvO p, mmO m, qb (0, 0), bO (p.length - 1)]⟩
def st69 (p : List Int) (m : Memo) (i : Nat) : St := ⟨.ptr 0 0 [] :: .dead :: .dead :: .ptr 2 0 [] :: .dead :: .dead :: .dead :: .int .i64 (p.length - 1 : Int) :: .own 3 0 :: .ptr 4 0 [] :: dd 27 ++ (.int .i64 p.length :: .int .i64 i :: dd 55), [cvO p, mmO m, qb (0, 0), sF ((qs (whole p)).take i), bO (p.length - 1)]⟩
/-- The inner loop: a sum. -/
def jz69 (p : List Int) (m : Memo) (i : Nat) (k : Nat) : St := ⟨.ptr 0 0 [] :: .dead :: .dead :: .ptr 2 0 [] :: .dead :: .dead :: .dead :: .int .i64 (p.length - 1 : Int) :: nl :: .ptr 3 0 [] :: .int .i64 i :: .ptr 4 0 [] :: dd 25 ++ (.int .i64 p.length :: .int .i64 i :: dd 4 ++ (.ar I64 7 (brow i) :: .int .i64 k :: dd 49)), [cvO p, mmO m, qb (0, 0), bO (p.length - 1), bxF (wsum p (p.length - 1) i k)]⟩
def jt69 (p : List Int) (m : Memo) (i : Nat) (k : Nat) : St := ⟨.ptr 0 0 [] :: .dead :: .dead :: .ptr 2 0 [] :: .dead :: .dead :: .dead :: .int .i64 (p.length - 1 : Int) :: .own 3 0 :: .ptr 4 0 [] :: .int .i64 i :: .ptr 5 0 [] :: dd 25 ++ (.int .i64 p.length :: .int .i64 i :: dd 4 ++ (.ar I64 7 (brow i) :: .int .i64 k :: dd 49)), [cvO p, mmO m, qb (0, 0), sF ((qs (whole p)).take i), bO (p.length - 1), bxF (wsum p (p.length - 1) i k)]⟩
def fj69 (p : List Int) (m : Memo) (i : Nat) : List Fam := [⟨Nat, fun k => i = 0 /\ k <= i + 1, jz69 p m i, fun k => i + 1 - k, fun _ _ => none⟩, ⟨Nat, fun k => k <= i + 1, jt69 p m i, fun k => i + 1 - k, fun _ _ => none⟩]
def ej69 (p : List Int) (m : Memo) (i : Nat) : List (List Nat × Ex) := [
 ([0, 3, 7, 8, 9, 11, 37, 38], ⟨2, Unit, fun _ => i = 0, fun _ => ⟨.ptr 0 0 [] :: .dead :: .dead :: .ptr 2 0 [] :: .dead :: .dead :: .dead :: .int .i64 (p.length - 1 : Int) :: nl :: .ptr 3 0 [] :: .dead :: .ptr 4 0 [] :: dd 25 ++ (.int .i64 p.length :: .int .i64 i :: dd 55), [cvO p, mmO m, qb (0, 0), bO (p.length - 1), bxF (wsum p (p.length - 1) i (i + 1))]⟩⟩),
 ([0, 3, 7, 8, 9, 11, 37, 38], ⟨2, Unit, fun _ => True, fun _ => ⟨.ptr 0 0 [] :: .dead :: .dead :: .ptr 2 0 [] :: .dead :: .dead :: .dead :: .int .i64 (p.length - 1 : Int) :: .own 3 0 :: .ptr 4 0 [] :: .dead :: .ptr 5 0 [] :: dd 25 ++ (.int .i64 p.length :: .int .i64 i :: dd 55), [cvO p, mmO m, qb (0, 0), sF ((qs (whole p)).take i), bO (p.length - 1), bxF (wsum p (p.length - 1) i (i + 1))]⟩⟩)]
noncomputable def Hj69 (p : List Int) (m : Memo) (i : Nat) : Nat -> Option Hint := fun _ => some ⟨chks 2 [0, 3, 7, 8, 9, 10, 11, 37, 38, 43, 44] (fj69 p m i), (ej69 p m i).map (·.2)⟩
noncomputable def fm69 (p : List Int) (m : Memo) : List Fam := [⟨Unit, fun _ => True, sz69 p m, fun _ => p.length + 1, fun _ => Hj69 p m 0⟩, ⟨Nat, fun i => i <= p.length, st69 p m, fun i => p.length - i, fun i => Hj69 p m i⟩]
def ex69 (p : List Int) (m : Memo) : List (List Nat × Ex) := [([0, 3, 8], ⟨0, Unit, fun _ => True, fun _ => ⟨.ptr 0 0 [] :: .dead :: .dead :: .ptr 2 0 [] :: .dead :: .dead :: .dead :: .dead :: .own 3 0 :: dd 85, [cvO p, mmO m, qb (0, 0), sF (qs (whole p))]⟩⟩)]
noncomputable def H69 (p : List Int) (m : Memo) : Nat -> Option Hint := fun _ => some ⟨chks 2 [0, 3, 7, 8, 9, 37, 38] (fm69 p m), (ex69 p m).map (·.2)⟩
theorem brow_get0 : ∀ n : Fin 7, ∀ k : Fin 7, (brow n).getD k 0 = ch n k := by decide
theorem brow_get {n k : Nat} (hn : n <= 6) (hk : k <= 6) : (brow n).getD k 0 = ch n k := brow_get0 ⟨n, by omega⟩ ⟨k, by omega⟩
theorem loop69_2 (l : EL) (p : List Int) (m : Memo) (hp : isPoly p) (i : Nat) (hi : i < p.length) (R : Exit -> St -> Prop) : LoopOK (X69 l) L69_2 ⟨chks 2 [0, 3, 7, 8, 9, 10, 11, 37, 38, 43, 44] (fj69 p m i), (ej69 p m i).map (·.2)⟩ R := by
 refine loop_fams (X69_ok l) [0, 3, 7, 8, 9, 10, 11, 37, 38, 43, 44] (fj69 p m i) (ej69 p m i) 90 ⟨fun (k : Nat) hk => ?_, fun (k : Nat) hk => ?_, trivial⟩
 · refine of_eq (q := (fun (o : List Int) => (fun (l : Nat) => (fun (j : Int) => (fun (h : Int) => (fun (g : Prop) => (fun (w : Prop) => (fun (f : Int) => (fun (v : Prop) => (fun (u : Int) => (fun (r : Prop) => (fun (d : Int) => (fun (n : Int) => (fun (c : Nat) => (fun (s : Rat) => (fun (q : List Int) => (fun (e : Int × Int) => (fun (b : Int × Int) => (fun (t : Rat) => (fun (a : Prop) => g /\ (j < 7 -> g /\ idxPre j (7 : Nat) /\ g /\ g /\ g /\ g /\ g /\ (h < j -> a) /\ (¬h < j -> g /\ g /\ g /\ g /\ g /\ g /\ idxPre j p.length /\ g /\ g /\ inR .i64 u /\ g /\ idxPre j (7 : Nat) /\ g /\ (small u /\ small (q.getD k f) /\ f < q.getD k f) /\ (good e /\ good (b.fst, b.snd) /\ addOk (rat e) t) /\ g /\ inR .i64 (j + 1) /\ g /\ ((∃ (y : Nat), ((i = 0 /\ y <= l) /\ l - y < l - k) /\ (g /\ g /\ n = n /\ g /\ g /\ h = h /\ g /\ d = d /\ h = h /\ o = o /\ j + 1 = (y : Int) /\ g) /\ w /\ m = m /\ v /\ q = q /\ ((rat e + t).num = (wsum p c i y).num /\ (↑(rat e + t).den : Int) = (↑(wsum p c i y).den : Int) /\ g) /\ g) ∨ ∃ (y : Nat), (y <= l /\ l - y < l - k) /\ (g /\ g /\ n = n /\ False /\ False /\ h = h /\ False /\ d = d /\ h = h /\ o = o /\ j + 1 = (y : Int) /\ g) /\ r))) /\ (¬j < 7 -> a)) ((∃ (y : Unit), i = 0 /\ (g /\ g /\ n = n /\ g /\ g /\ g /\ d = d /\ h = h /\ g) /\ w /\ m = m /\ v /\ q = q /\ (s.num = (wsum p c i l).num /\ (s.den : Int) = (↑(wsum p c i l).den : Int) /\ g) /\ g) ∨ ∃ (y : Unit), g /\ (g /\ g /\ n = n /\ False /\ False /\ False /\ d = d /\ h = h /\ g) /\ r)) (rat (b.fst, b.snd))) (fracR u (q.getD k f))) ((s.num, (s.den : Int)))) (brow c)) (wsum p c i k)) (p.length - 1)) (d - 1)) ((p.length : Int))) (w /\ m = m /\ v /\ False /\ False /\ False)) (p.getD k f * o.getD k f)) (f = f /\ f = f /\ g)) ((0 : Int))) (p = p /\ g /\ g)) (True)) ((i : Int))) ((k : Int))) (i + 1)) (brow i)) (by kernel_rfl) ?_
   simp only [zz]
   unfold isPoly at hp
   have hle : k <= i + 1 := hk.2
   refine ⟨fun h => ⟨idx_nat (by omega), fun h2 => ?_, fun h2 => ?_⟩, fun h => ?_⟩
   · refine ⟨hk.1, ?_⟩; rw [show k = i + 1 by omega]; exact ⟨rfl, rfl⟩
   · have hc := ch_facts (n := p.length - 1) (k := k) (by omega) (by omega)
     have ht := term_num hp.2.2 (i := i) (k := k) (by omega) (by omega)
     rw [brow_get (n := i) (k := k) (by omega) (by omega), brow_get (n := p.length - 1) (k := k) (by omega) (by omega)]
     have hf : fracR (p.getD k 0 * ch i k) (ch (p.length - 1) k) = qp (term p (p.length - 1) i k) := fracR_eq (by omega)
     rw [hf]
     simp only [qp_fst, qp_snd, rat_num_den]
     exact ⟨idx_nat (by omega), by simp only [inR]; omega, idx_nat (by omega), ⟨by unfold small; omega, by unfold small; omega, by omega⟩, ⟨good_nd _, good_nd _, wsum_ok hp.2.2 (by omega) (by omega) (by omega)⟩, by simp only [inR]; omega, k + 1, by omega, by simp, rfl, rfl⟩
   · refine ⟨hk.1, ?_⟩; rw [show k = i + 1 by omega]; exact ⟨rfl, rfl⟩
 · refine of_eq (q := (fun (r : List Int) => (fun (n : Nat) => (fun (l : Int) => (fun (j : List (Int × Int)) => (fun (h : Int) => (fun (g : Prop) => (fun (x : Prop) => (fun (f : Int) => (fun (w : Prop) => (fun (v : Int) => (fun (s : Prop) => (fun (d : Int) => (fun (o : Int) => (fun (c : Nat) => (fun (t : Rat) => (fun (q : List Int) => (fun (e : Int × Int) => (fun (b : Int × Int) => (fun (u : Rat) => (fun (a : Prop) => g /\ (l < 7 -> g /\ idxPre l (7 : Nat) /\ g /\ g /\ g /\ g /\ g /\ (h < l -> a) /\ (¬h < l -> g /\ g /\ g /\ g /\ g /\ g /\ idxPre l p.length /\ g /\ g /\ inR .i64 v /\ g /\ idxPre l (7 : Nat) /\ g /\ (small v /\ small (q.getD k f) /\ f < q.getD k f) /\ (good e /\ good (b.fst, b.snd) /\ addOk (rat e) u) /\ g /\ inR .i64 (l + 1) /\ g /\ ((∃ (y : Nat), ((i = 0 /\ y <= n) /\ n - y < n - k) /\ (g /\ g /\ o = o /\ False /\ False /\ h = h /\ False /\ d = d /\ h = h /\ r = r /\ l + 1 = (y : Int) /\ g) /\ s) ∨ ∃ (y : Nat), (y <= n /\ n - y < n - k) /\ (g /\ g /\ o = o /\ g /\ g /\ h = h /\ g /\ d = d /\ h = h /\ r = r /\ l + 1 = (y : Int) /\ g) /\ x /\ m = m /\ w /\ j = j /\ q = q /\ ((rat e + u).num = (wsum p c i y).num /\ (↑(rat e + u).den : Int) = (↑(wsum p c i y).den : Int) /\ g) /\ g))) /\ (¬l < 7 -> a)) ((∃ (y : Unit), i = 0 /\ (g /\ g /\ o = o /\ False /\ False /\ False /\ d = d /\ h = h /\ g) /\ s) ∨ ∃ (y : Unit), g /\ (g /\ g /\ o = o /\ g /\ g /\ g /\ d = d /\ h = h /\ g) /\ x /\ m = m /\ w /\ j = j /\ q = q /\ (t.num = (wsum p c i n).num /\ (t.den : Int) = (↑(wsum p c i n).den : Int) /\ g) /\ g)) (rat (b.fst, b.snd))) (fracR v (q.getD k f))) ((t.num, (t.den : Int)))) (brow c)) (wsum p c i k)) (p.length - 1)) (d - 1)) ((p.length : Int))) (x /\ m = m /\ w /\ False /\ False /\ g)) (p.getD k f * r.getD k f)) (f = f /\ f = f /\ g)) ((0 : Int))) (p = p /\ g /\ g)) (True)) ((i : Int))) (List.take i (qs (whole p)))) ((k : Int))) (i + 1)) (brow i)) (by kernel_rfl) ?_
   simp only [zz]
   unfold isPoly at hp
   have hle : k <= i + 1 := hk
   refine ⟨fun h => ⟨idx_nat (by omega), fun h2 => ?_, fun h2 => ?_⟩, fun h => ?_⟩
   · rw [show k = i + 1 by omega]; exact ⟨rfl, rfl⟩
   · have hc := ch_facts (n := p.length - 1) (k := k) (by omega) (by omega)
     have ht := term_num hp.2.2 (i := i) (k := k) (by omega) (by omega)
     rw [brow_get (n := i) (k := k) (by omega) (by omega), brow_get (n := p.length - 1) (k := k) (by omega) (by omega)]
     have hf : fracR (p.getD k 0 * ch i k) (ch (p.length - 1) k) = qp (term p (p.length - 1) i k) := fracR_eq (by omega)
     rw [hf]
     simp only [qp_fst, qp_snd, rat_num_den]
     exact ⟨idx_nat (by omega), by simp only [inR]; omega, idx_nat (by omega), ⟨by unfold small; omega, by unfold small; omega, by omega⟩, ⟨good_nd _, good_nd _, wsum_ok hp.2.2 (by omega) (by omega) (by omega)⟩, by simp only [inR]; omega, k + 1, by omega, by simp, rfl, rfl⟩
   · rw [show k = i + 1 by omega]; exact ⟨rfl, rfl⟩
theorem loop69 (l : EL) (p : List Int) (m : Memo) (hp : isPoly p) (R : Exit -> St -> Prop) : LoopOK (X69 l) L69_0 ⟨chks 2 [0, 3, 7, 8, 9, 37, 38] (fm69 p m), (ex69 p m).map (·.2)⟩ R := by
 refine loop_fams (X69_ok l) [0, 3, 7, 8, 9, 37, 38] (fm69 p m) (ex69 p m) 90 ⟨fun _ _ => ?_, fun (i : Nat) hi => ?_, trivial⟩
 · have h0 : 0 < p.length := hp.1
   have hL := loop69_2 l p m hp 0 h0
   refine of_eq (q := (fun (k : Nat) => (fun (j : Nat) => (fun (h : Nat) => (fun (g : Int) => (fun (f : List Int) => (fun (e : Prop) => (fun (n : Prop) => (fun (c : Int) => (fun (i : Prop) => (fun (b : Int × Int) => (fun (a : Int) => (fun (o : Prop) => (fun (d : Prop) => e /\ (c < a -> e /\ e /\ e /\ e /\ e /\ e /\ ((c <= c /\ c <= 6) /\ e) /\ e /\ LoopOK (X69 l) L69_2 { J := chks (2 : Nat) [h, (3 : Nat), (7 : Nat), (8 : Nat), (9 : Nat), (10 : Nat), (11 : Nat), (37 : Nat), (38 : Nat), (43 : Nat), (44 : Nat)] (fj69 p m h), exits := List.map (fun (x : List Nat × Ex) => x.snd) (ej69 p m h) } (bodyR (X69 l).m0 (ex69 p m) R) /\ ((∃ (y : Nat), (h = h /\ y <= k) /\ (e /\ e /\ o /\ e /\ e /\ c = c /\ e /\ a = a /\ c = c /\ brow h = brow h /\ c = (y : Int) /\ e) /\ n /\ m = m /\ i /\ f = f /\ (c = (wsum p (j - k) h y).num /\ g = (↑(wsum p (j - k) h y).den : Int) /\ e) /\ e) ∨ ∃ (y : Nat), y <= k /\ (e /\ e /\ o /\ False /\ False /\ c = c /\ False /\ a = a /\ c = c /\ brow h = brow h /\ c = (y : Int) /\ e) /\ n /\ m = m /\ i /\ False /\ False /\ False) /\ (∀ (y : Unit), h = h -> e /\ e /\ e /\ sumPre h [b].length (nat_lit 16) /\ e /\ inR .i64 g /\ e /\ (d ∨ ∃ (y : Nat), (y <= j /\ j - y < j + k) /\ (e /\ e /\ o /\ e /\ e /\ a = a /\ g = (y : Int) /\ e) /\ n /\ m = m /\ i /\ [b] = List.take y (qs (whole p)) /\ f = f /\ e)) /\ (∀ (y : Unit), e -> e /\ e /\ e /\ sumPre ([] : List Int).length [b].length (nat_lit 16) /\ e /\ inR .i64 g /\ e /\ (d ∨ ∃ (y : Nat), (y <= j /\ j - y < j + k) /\ (e /\ e /\ o /\ e /\ e /\ a = a /\ g = (y : Int) /\ e) /\ n /\ m = m /\ i /\ [] ++ [b] = List.take y (qs (whole p)) /\ f = f /\ e)) /\ e) /\ (¬c < a -> ∃ (y : Unit), e /\ (e /\ e /\ False /\ e) /\ n /\ m = m /\ i /\ False)) (∃ (y : Unit), (e /\ j + k < j + k) /\ (e /\ e /\ o /\ False /\ False /\ a = a /\ g = c /\ e) /\ n /\ m = m /\ i /\ False /\ e)) (a - g = a - g)) ((j : Int))) (((wsum p (j - k) h k).num, (↑(wsum p (j - k) h k).den : Int)))) (c = c /\ c = c /\ e)) ((0 : Int))) (p = p /\ e /\ e)) (True)) (brow (j - k))) ((1 : Int))) ((0 : Nat))) (p.length)) ((1 : Nat))) (by kernel_rfl) ?_
   simp only [zz]
   unfold isPoly at hp
   have hs := whole_take h0
   simp only [Nat.zero_add, List.take_zero, List.nil_append] at hs
   refine ⟨fun _ => ⟨by omega, hL _, ⟨0, by omega, rfl, rfl, rfl⟩, fun _ _ => ⟨by unfold sumPre; simp, by simp only [inR]; omega, 1, by omega, rfl, hs.symm⟩, fun _ _ => ⟨by unfold sumPre; simp, by simp only [inR]; omega, 1, by omega, rfl, hs.symm⟩⟩, fun h => h (by omega)⟩
 · have hL := loop69_2 l p m hp i
   refine of_eq (q := (fun (q : Int) => (fun (o : Nat) => (fun (k : Nat) => (fun (t : Rat) => (fun (j : Int) => (fun (h : List Int) => (fun (g : Int) => (fun (f : Prop) => (fun (n : Prop) => (fun (e : List (Int × Int)) => (fun (s : List (Int × Int)) => (fun (c : Prop) => (fun (b : Int × Int) => (fun (a : Int) => (fun (r : Prop) => (fun (d : Prop) => f /\ (g < a -> f /\ f /\ f /\ f /\ f /\ f /\ ((q <= g /\ g <= 6) /\ f) /\ f /\ LoopOK (X69 l) L69_2 { J := chks (2 : Nat) [(0 : Nat), (3 : Nat), (7 : Nat), (8 : Nat), (9 : Nat), (10 : Nat), (11 : Nat), (37 : Nat), (38 : Nat), (43 : Nat), (44 : Nat)] (fj69 p m i), exits := List.map (fun (x : List Nat × Ex) => x.snd) (ej69 p m i) } (bodyR (X69 l).m0 (ex69 p m) R) /\ ((∃ (y : Nat), (i = 0 /\ y <= i + o) /\ (f /\ f /\ r /\ False /\ False /\ g = g /\ False /\ a = a /\ g = g /\ brow i = brow i /\ q = (y : Int) /\ f) /\ n /\ m = m /\ c /\ False /\ False /\ f) ∨ ∃ (y : Nat), y <= i + o /\ (f /\ f /\ r /\ f /\ f /\ g = g /\ f /\ a = a /\ g = g /\ brow i = brow i /\ q = (y : Int) /\ f) /\ n /\ m = m /\ c /\ s = s /\ h = h /\ (q = (wsum p (k - o) i y).num /\ j = (↑(wsum p (k - o) i y).den : Int) /\ f) /\ f) /\ (∀ (y : Unit), i = 0 -> f /\ f /\ f /\ sumPre (0 : Nat) [b].length (nat_lit 16) /\ f /\ inR .i64 (g + j) /\ f /\ (d ∨ ∃ (y : Nat), (y <= k /\ k - y < k - i) /\ (f /\ f /\ r /\ f /\ f /\ a = a /\ g + j = (y : Int) /\ f) /\ n /\ m = m /\ c /\ [b] = List.take y e /\ h = h /\ f)) /\ (∀ (y : Unit), f -> f /\ f /\ f /\ sumPre s.length [b].length (nat_lit 16) /\ f /\ inR .i64 (g + j) /\ f /\ (d ∨ ∃ (y : Nat), (y <= k /\ k - y < k - i) /\ (f /\ f /\ r /\ f /\ f /\ a = a /\ g + j = (y : Int) /\ f) /\ n /\ m = m /\ c /\ s ++ [b] = List.take y e /\ h = h /\ f)) /\ f) /\ (¬g < a -> ∃ (y : Unit), f /\ (f /\ f /\ f /\ f) /\ n /\ m = m /\ c /\ s = e /\ f)) (∃ (y : Unit), (f /\ k + o < k - i) /\ (f /\ f /\ r /\ False /\ False /\ a = a /\ g + j = q /\ f) /\ n /\ m = m /\ c /\ False /\ f)) (a - j = a - j)) ((k : Int))) ((t.num, (t.den : Int)))) (q = q /\ q = q /\ f)) (List.take i e)) (qs (whole p))) (p = p /\ f /\ f)) (True)) ((i : Int))) (brow (k - o))) ((1 : Int))) (wsum p (k - o) i (i + o))) (p.length)) ((1 : Nat))) ((0 : Int))) (by kernel_rfl) ?_
   simp only [zz]
   unfold isPoly at hp
   have hi' : i <= p.length := hi
   have hln : (qs (whole p)).length = p.length := by rw [qs_length, whole_length]
   refine ⟨fun h => ?_, fun h => by rw [List.take_of_length_le (by omega)]⟩
   have hs := whole_take (p := p) (i := i) (by omega)
   refine ⟨by omega, hL (by omega) _, ⟨0, by omega, rfl, rfl, rfl⟩, fun _ h0 => ⟨by unfold sumPre; simp, by simp only [inR]; omega, i + 1, by omega, by omega, ?_⟩, fun _ _ => ⟨by unfold sumPre; simp; omega, by simp only [inR]; omega, i + 1, by omega, by omega, hs.symm⟩⟩
   rw [hs, h0]; try rfl
def pre69 (n : Int) (p : List Int) (m : Memo) (q : Int × Int) : Prop := isPoly p /\ isPiece q /\ q.1 < n /\ memoOk p m
def Known (n : Int) : Prop := ∀ p m q, pre69 n p m q -> GCall Tryd.prog gl 69 false [.ptr 0 0 [], ofD FR q] [cvO p, mmO m] [.sl FR (qc p q.1.toNat q.2.toNat)] [cvO p, mmO (cm p q.1.toNat q.2.toNat m)]
def e69n (n : Int) (h : Known n) : Entry Tryd.prog gl := entryC 69 ⟨Tryd.f69, by kernel_rfl, by kernel_rfl, by kernel_rfl⟩ (pre69 n) (fun p _ q => [.sl FR (qc p q.1.toNat q.2.toNat)]) (fun p m q => cm p q.1.toNat q.2.toNat m) h
set_option maxHeartbeats 4000000 in
theorem known_succ (n : Nat) (hn : n <= 6) (ih : Known n) : Known (n + 1 : Nat) := by
 intro p m q hq
 obtain ⟨q1, q2⟩ := q
 have hpc := hq.2.1
 unfold isPiece at hpc
 simp only at hpc
 obtain ⟨d, rfl⟩ : ∃ d : Nat, q1 = d := ⟨q1.toNat, by omega⟩
 obtain ⟨k, rfl⟩ : ∃ k : Nat, q2 = k := ⟨q2.toNat, by omega⟩
 refine gcall_of (X := (X69 [e69n n ih])) ((X69_ok _)) (f := 69) (fn := Tryd.f69) (c := bodyOf Tryd.f69) (by kernel_rfl) (by kernel_rfl) (view := false) (rvs := [.tmp 4]) (by kernel_rfl) (H := (H69 p m)) 200 (by kernel_rfl) ?_
 have hL := loop69 [e69n n ih] p m hq.1
 refine of_eq (q := (fun (v : AV) => (fun (u : Cy) => (fun (s : Int) => (fun (o : Int) => (fun (l : Int) => (fun (j : Int) => (fun (q : AV) => (fun (i : Int) => (fun (g : Prop) => (fun (f : Int) => (fun (e : Int) => (fun (t : Option (List (Int × Int))) => (fun (c : Prop) => (fun (r : Prop) => (fun (a : List (Int × Int)) => (fun (h : List (Int × Int)) => c /\ c /\ c /\ c /\ c /\ c /\ c /\ c /\ c /\ c /\ c /\ c /\ c /\ c /\ (t.isSome = true -> c /\ c /\ c /\ (t.getD [] = qc p d k /\ c) /\ r /\ m = cm p d k m /\ c) /\ (t.isSome = false -> c /\ c /\ c /\ c /\ c /\ inR .i64 f /\ c /\ c /\ c /\ c /\ c /\ ((i, e) = (l, l) -> c /\ ((l <= f /\ f <= 6) /\ c) /\ c /\ c /\ c /\ inR .i64 (f + o) /\ c /\ LoopOK u L69_0 { J := chks (2 : Nat) [(0 : Nat), (3 : Nat), (7 : Nat), (8 : Nat), (9 : Nat), (37 : Nat), (38 : Nat)] (fm69 p m), exits := List.map (fun (x : List Nat × Ex) => x.snd) (ex69 p m) } (RetR u false false [ResultVar.tmp (4 : Tmp)] [AV.sl FR (qc p (i, e).fst.toNat (i, e).snd.toNat)] [cvO p, mmO (cm p (i, e).fst.toNat (i, e).snd.toNat m)]) /\ ((∃ (y : Unit), c /\ (c /\ c /\ f = s - o /\ c /\ c /\ f + o = s /\ l = l /\ c) /\ r /\ m = m /\ (i = l /\ e = l /\ c) /\ brow f.toNat = brow (p.length - 1) /\ c) ∨ ∃ (y : Nat), y <= p.length /\ (c /\ c /\ f = s - o /\ False /\ False /\ f + o = s /\ l = (y : Int) /\ c) /\ r /\ m = m /\ (i = l /\ e = l /\ c) /\ False /\ False) /\ (∀ (y : Unit), c -> c /\ c /\ c /\ c /\ c /\ c /\ c /\ c /\ c /\ c /\ (qs (whole p) = qc p d k /\ c) /\ r /\ mPut FR m (l, l) (qs (whole p)) = cm p d k m /\ c) /\ c) /\ (¬(i, e) = (l, l) -> c /\ g /\ c /\ g /\ c /\ g /\ inR .i64 (i - o) /\ g /\ c /\ g /\ c /\ g /\ (¬j = l /\ inR .i64 (e.tdiv j)) /\ g /\ c /\ g /\ ((isPoly p /\ isPiece (i - o, e.tdiv j) /\ i - o < (n : Int) /\ memoOk p m) /\ c /\ c /\ c) /\ c /\ c /\ ((c /\ q = q) /\ g) /\ (goodL a /\ good (o, j) /\ ∃ (D : Int), ∃ (M : Int), ∃ (b : Int), Dv D M b (rat (o, j)) (rats a)) /\ c /\ c /\ ((c /\ v = v) /\ g) /\ c /\ ((c /\ AV.int .i64 e = AV.int .i64 e) /\ g) /\ ¬j = l /\ ((¬j = l /\ AV.int .i64 (e.tmod j) = AV.int .i64 (e.tmod j)) /\ g) /\ idxPre (e.tmod j) (2 : Nat) /\ c /\ c /\ c /\ c /\ c /\ c /\ c /\ c /\ c /\ c /\ c /\ c /\ c /\ (h = qc p d k /\ c) /\ r /\ mPut FR (cm p (i - o).toNat (e.tdiv j).toNat m) (i, e) h = cm p d k m /\ c))) ([qs (dvL (rat (o, j)) (rats a)), qs (dvR (rat (o, j)) (rats a))].getD (e.tmod j).toNat [])) (qc p (i - o).toNat (e.tdiv j).toNat)) (p = p /\ c /\ c)) (True)) (mGet FR m (i, e))) ((k : Int))) ((p.length : Int) - o)) (true = true)) ((d : Int))) (AV.agg [AV.int .i64 o, AV.int .i64 j])) ((2 : Int))) ((0 : Int))) ((1 : Int))) ((p.length : Int))) (X69 [e69n (n : Int) ih])) (AV.ptr (2 : Nat) (0 : Nat) [(1 : Nat)])) (by kernel_rfl) ?_
 simp only [zz]
 obtain ⟨hp, _, hdn, hm⟩ := hq
 have hdn : (d : Int) < ((n + 1 : Nat) : Int) := hdn
 have hpp := hp
 unfold isPoly at hpp
 have hk2 : k < 2 ^ d := by
   have e : ((2 ^ d : Nat) : Int) = 2 ^ d := by rw [Int.natCast_pow]; try rfl
   have := hpc.2.2.2
   rw [Int.toNat_natCast, <- e] at this
   omega
 have hget : mGet FR m ((d : Int), (k : Int)) = mget m ((d : Int), (k : Int)) := rfl
 rw [hget]
 refine ⟨fun hs => ?_, fun hs => ?_⟩
 · obtain ⟨v, hv⟩ := Option.isSome_iff_exists.mp hs
   rw [hv]
   refine ⟨hm d k v hv, ?_⟩
   cases d with
   | zero => unfold cm; rw [show mget m (0, (k : Int)) = some v from hv]
   | succ d => unfold cm; rw [show mget m (((d + 1 : Nat) : Int), (k : Int)) = some v from hv]
 · have hn : mget m ((d : Int), (k : Int)) = none := by
     cases h : mget m ((d : Int), (k : Int)) with
     | none => rfl
     | some v => rw [h] at hs; cases hs
   refine ⟨by simp only [inR]; omega, fun h0 => ?_, fun h0 => ?_⟩
   · have hd0 : d = 0 := by have := congrArg Prod.fst h0; simp at this; omega
     have hk0 : k = 0 := by have := congrArg Prod.snd h0; simp at this; omega
     subst hd0 hk0
     refine ⟨by omega, by simp only [inR]; omega, hL _, ⟨by omega, ⟨rfl, rfl⟩, ?_⟩, fun _ _ => ⟨rfl, ?_⟩⟩
     · rw [show ((p.length : Int) - 1).toNat = p.length - 1 by omega]
     · unfold cm
       rw [show mget m (0, ((0 : Nat) : Int)) = none from hn]; try rfl
   · have hd : d ≠ 0 := fun e => h0 (by subst e; rw [show k = 0 by simpa using hk2]; rfl)
     obtain ⟨d, rfl⟩ : ∃ e, d = e + 1 := ⟨d - 1, by omega⟩
     have e1 : (((d + 1 : Nat) : Int) - 1) = (d : Int) := by omega
     have e2 : Int.tdiv (k : Int) 2 = ((k / 2 : Nat) : Int) := rfl
     have e3 : Int.tmod (k : Int) 2 = ((k % 2 : Nat) : Int) := rfl
     have hk64 : k < 64 := by
       have := Nat.pow_le_pow_right (show 0 < 2 by omega) (show d + 1 <= 6 by omega)
       omega
     have hk3 : k / 2 < 2 ^ d := by rw [Nat.pow_succ] at hk2; omega
     have hdv := (cnr_dv hpp.2.2 hpp.1 hpp.2.1 d (k / 2) (by omega)).2 (by omega)
     have hval : [qs (dvL (rat (1, 2)) (rats (qc p d (k / 2)))), qs (dvR (rat (1, 2)) (rats (qc p d (k / 2))))].getD (k % 2) [] = qc p (d + 1) k := by
       rw [rat_half, show qc p d (k / 2) = qs (cnr p d (k / 2)) from rfl, rats_qs]
       unfold qc
       conv => rhs; unfold cnr
       rcases Nat.mod_two_eq_zero_or_one k with h | h
       · rw [h, if_pos rfl]; try rfl
       · rw [h, if_neg (by omega)]; try rfl
     rw [e1, e2, e3]
     simp only [Int.toNat_natCast]
     rw [hval]
     refine ⟨by simp only [inR]; omega, ⟨by omega, by simp only [inR]; omega⟩, ⟨hp, ?_, by omega, hm⟩, ⟨goodL_qs _, good_half, ?_⟩, by omega, by omega, by unfold idxPre; omega, ?_⟩
     · unfold isPiece
       have e : ((2 ^ d : Nat) : Int) = 2 ^ d := by rw [Int.natCast_pow]; try rfl
       simp only [Int.toNat_natCast]
       rw [<- e]
       omega
     · rw [rat_half, show qc p d (k / 2) = qs (cnr p d (k / 2)) from rfl, rats_qs]
       exact ⟨_, _, _, hdv⟩
     · have hc : cm p (d + 1) k m = mput (cm p d (k / 2) m) (((d + 1 : Nat) : Int), (k : Int)) (qc p (d + 1) k) := by
         show (match mget m (((d + 1 : Nat) : Int), (k : Int)) with | some _ => m | none => _) = _
         rw [hn]
       exact ⟨rfl, hc.symm⟩
theorem known0 : Known 0 := fun p m q h => by
 have h1 := h.2.2.1
 have h2 := h.2.1
 unfold isPiece at h2
 omega
theorem known7 : Known 7 := known_succ 6 (by omega) (known_succ 5 (by omega) (known_succ 4 (by omega) (known_succ 3 (by omega) (known_succ 2 (by omega) (known_succ 1 (by omega) (known_succ 0 (by omega) known0))))))
noncomputable def e69 : Entry Tryd.prog gl := e69n 7 known7
end Go.Am.Bern

/- Bern: corners for others; functions over fractions. -/
namespace Go.Am.Bern
open Go Go.Am Go.Proofs
theorem call62 (p : List Int) (_ : True) : GCall Tryd.prog gl 62 false [.sl I64 p] [] [.ptr 0 0 []] [cvO p, mmO []] := by
 refine gcall_of (X := X []) (X_ok []) (f := 62) (fn := Tryd.f62) (c := bodyOf Tryd.f62) (by kernel_rfl) (by kernel_rfl) (view := false) (rvs := [.tmp 2]) (by kernel_rfl) (H := fun _ => none) 80 (by kernel_rfl) ?_
 refine of_eq (q := (fun (a : Prop) => a /\ a /\ a /\ a /\ a /\ a /\ a /\ (a /\ a) /\ (p = p /\ a /\ a) /\ ([] : List ((Int × Int) × List (Int × Int))) = [] /\ a) (True)) (by kernel_rfl) ?_
 simp only [zz]
def e62 : Entry Tryd.prog gl := entry1 62 ⟨Tryd.f62, by kernel_rfl, by kernel_rfl, by kernel_rfl⟩ SI (fun _ => True) false (fun _ => [.ptr 0 0 []]) (fun p => [cvO p, mmO []]) (call62)
theorem qc_length (p : List Int) (d k : Nat) : (qc p d k).length = p.length := by rw [qc, qs_length, cnr_length]
theorem memoOk_nil (p : List Int) : memoOk p [] := fun d k v h => by simp [mget, mGet] at h
theorem call59 (p : List Int) (q : Int × Int) (h : isPoly p /\ isPiece q) : GCall Tryd.prog gl 59 false [.sl I64 p, ofD FR q] [] [.sl FR (qc p q.1.toNat q.2.toNat)] [] := by
 refine gcall_of (X := X [e69]) (X_ok [e69]) (f := 59) (fn := Tryd.f59) (c := bodyOf Tryd.f59) (by kernel_rfl) (by kernel_rfl) (view := false) (rvs := [.tmp 4]) (by kernel_rfl) (H := fun _ => none) 80 (by kernel_rfl) ?_
 refine of_eq (q := (fun (a : Prop) => a /\ a /\ a /\ a /\ a /\ a /\ a /\ ((isPoly p /\ isPiece (q.fst, q.snd) /\ q.fst < 7 /\ memoOk p []) /\ a /\ a /\ a) /\ a /\ a /\ (qc p (Int.toNat q.fst) (Int.toNat q.snd) = qc p q.fst.toNat q.snd.toNat /\ a) /\ a) (True)) (by kernel_rfl) ?_
 simp only [zz]
 have := h.2
 exact ⟨h.1, h.2, by unfold isPiece at this; omega, memoOk_nil p⟩
def e59 : Entry Tryd.prog gl := entry2 59 ⟨Tryd.f59, by kernel_rfl, by kernel_rfl, by kernel_rfl⟩ SI FR (fun p q => isPoly p /\ isPiece q) false (fun p q => [.sl FR (qc p q.1.toNat q.2.toNat)]) (fun _ _ => []) (call59)
def cornersR (p : List Int) (q : Int × Int) : List (Int × Int) := if isPoly p /\ isPiece q then qc p q.1.toNat q.2.toNat else []
def cornersE (p : List Int) (q : Int × Int) : Int := if isPoly p then (if isPiece q then 0 else 1) else 80
theorem call13 (p : List Int) (q : Int × Int) (h : p.length < 1000000) : GCall Tryd.prog gl 13 false [.sl I64 p, ofD Q2 q] [] [.sl Q2 (cornersR p q), .int .i64 (cornersE p q)] [] := by
 refine gcall_of (X := X [e56,e57,e59,e58]) (X_ok [e56,e57,e59,e58]) (f := 13) (fn := Tryd.f13) (c := bodyOf Tryd.f13) (by kernel_rfl) (by kernel_rfl) (view := true) (rvs := [.tmp 4, .tmp 5]) (by kernel_rfl) (H := fun _ => none) 80 (by kernel_rfl) ?_
 refine of_eq (q := True /\ True /\ True /\ True /\ (p.length + 1 <= 1000000 /\ True) /\ True /\ True /\ True /\ (¬errOf p = 0 -> True /\ True /\ True /\ True /\ (([] : List (Int × Int)) = cornersR p q /\ errOf p = cornersE p q /\ True) /\ True) /\ (¬¬errOf p = 0 -> idxPre (0 : Int) (2 : Nat) /\ True /\ idxPre (1 : Int) (2 : Nat) /\ True /\ True /\ True /\ True /\ True /\ (True /\ True) /\ True /\ ((!decide (isPiece (q.fst, q.snd))) = true -> True /\ True /\ True /\ (([] : List (Int × Int)) = cornersR p q /\ (1 : Int) = cornersE p q /\ True) /\ True) /\ ((!decide (isPiece (q.fst, q.snd))) = false -> True /\ True /\ ((isPoly p /\ isPiece (q.fst, q.snd)) /\ True) /\ ((qc p (Int.toNat q.fst) (Int.toNat q.snd)).length + 1 <= 1000000 /\ True) /\ True /\ True /\ True /\ (qc p (Int.toNat q.fst) (Int.toNat q.snd) = cornersR p q /\ (0 : Int) = cornersE p q /\ True) /\ True))) (by kernel_rfl) ?_
 simp only [zz]
 have hl := fun d k => qc_length p d k
 refine ⟨by omega, fun he => ?_, fun he => ⟨by unfold idxPre; omega, by unfold idxPre; omega, fun hp => ?_, fun hp => ?_⟩⟩
 · have hn : ¬ isPoly p := fun h' => he (by simp [errOf, h'])
   simp [cornersR, cornersE, errOf, hn]
 · have hy : isPoly p := by
     false_or_by_contra; rename_i hn; exact he (by simp [errOf, hn])
   have hp : ¬ isPiece q := by simpa using hp
   simp [cornersR, cornersE, hy, hp]
 · have hy : isPoly p := by
     false_or_by_contra; rename_i hn; exact he (by simp [errOf, hn])
   have hp : isPiece q := by simpa using hp
   refine ⟨⟨hy, hp⟩, by rw [hl]; omega, ?_⟩
   simp [cornersR, cornersE, hy, hp]
def e13 : Entry Tryd.prog gl := entry2 13 ⟨Tryd.f13, by kernel_rfl, by kernel_rfl, by kernel_rfl⟩ SI Q2 (fun p q => p.length < 1000000) false (fun p q => [.sl Q2 (cornersR p q), .int .i64 (cornersE p q)]) (fun _ _ => []) (call13)
theorem call95 (x : Int × Int) (_ : True) : GCall Tryd.prog gl 95 true [ofD FR x] [] [.bool (decide (x.1 <= 0))] [] := by
 refine gcall_of (X := X []) (X_ok []) (f := 95) (fn := Tryd.f95) (c := bodyOf Tryd.f95) (by kernel_rfl) (by kernel_rfl) (view := false) (rvs := [.tmp 2]) (by kernel_rfl) (H := fun _ => none) 80 (by kernel_rfl) ?_
 refine of_eq (q := True /\ True /\ True /\ True /\ True /\ True /\ True /\ (decide (x.fst <= 0) = decide (x.fst <= 0) /\ True) /\ True) (by kernel_rfl) ?_
 simp only [zz]
def e95 : Entry Tryd.prog gl := entry1 95 ⟨Tryd.f95, by kernel_rfl, by kernel_rfl, by kernel_rfl⟩ FR (fun _ => True) true (fun x => [.bool (decide (x.1 <= 0))]) (fun _ => []) (call95)
/-- A function of data and of a function that is known. -/
def entryG (f : FuncId) (g : FuncId) (en : Enters Tryd.prog f) (t : Ty) (pre : t.D -> Prop) (res : t.D -> List AV) (ok : ∀ a, pre a -> GCall Tryd.prog gl f true [ofD t a, .clo g [] []] [] (res a) []) : Entry Tryd.prog gl where
 f := f
 lend := false
 en := en
 go := fun args ob0 => match args, ob0 with
   | [x, .clo g' [] []], [] => (match Nat.beq g' g, toD t x with
     | true, some a => some (pre a, true, res a, [])
     | _, _ => none)
   | _, _ => none
 ok := by
   intro args ob0 p s r o h hp
   split at h <;> try (cases h; done)
   rename_i x g'
   split at h <;> try (cases h; done)
   rename_i a hg ha
   injection h with h; injection h with h1 h2; injection h2 with h2 h3; injection h3 with h3 h4
   subst h1 h2 h3 h4
   have hg := Nat.eq_of_beq_eq_true hg
   subst hg
   refine (ok a hp).args rfl fun i y hy => ?_
   match i with
   | 0 => simp at hy; subst hy; exact ⟨x, rfl, fun E I F w u hu => TR.toD ha hu⟩
   | 1 => simp at hy; subst hy; exact ⟨_, rfl, fun E I F w u hu => hu⟩
   | i + 2 => simp at hy
theorem find_at {l : List (Int × Int)} {k : Nat} (hk : k < l.length) (h : ∀ x ∈ l.take k, 0 < x.1) (hx : (l.getD k (0, 0)).1 <= 0) : l.findIdx (fun x => decide (x.1 <= 0)) = k := by
 induction l generalizing k with
 | nil => simp at hk
 | cons a l ih =>
   cases k with
   | zero => simp at hx; simp [List.findIdx_cons, hx]
   | succ k =>
     have ha : 0 < a.1 := h a (by simp)
     have hb : ¬ a.1 <= 0 := by omega
     rw [List.findIdx_cons]
     simp only [hb, decide_false, cond_false]
     rw [ih (by simpa using hk) (fun x hx => h x (by simp [hx])) (by simpa using hx)]
theorem getD_mem {α : Type} {l : List α} {n : Nat} {d : α} (h : n < l.length) : l.getD n d ∈ l := by
 rw [List.getD_eq_getElem?_getD, List.getElem?_eq_getElem h]; exact List.getElem_mem h
def fnp (l : List (Int × Int)) : Int := if posL l then -1 else (l.findIdx (fun x => decide (x.1 <= 0)) : Nat)
noncomputable def L98_0 : Code := lp (bodyOf Tryd.f98) 0
def st98 (l : List (Int × Int)) (k : Nat) : St := ⟨.sl FR l :: .clo 95 [] [] :: .dead :: .dead :: .dead :: .dead :: .dead :: .int .i64 l.length :: .int .i64 k :: dd 10, []⟩
def ex98 (l : List (Int × Int)) : List (List Nat × Ex) := [([], ⟨0, Unit, fun _ => posL l, fun _ => ⟨dd 19, []⟩⟩)]
noncomputable def H98 (l : List (Int × Int)) : Nat -> Option Hint := fun _ => some ⟨chk 0 [0, 1, 7, 8] (inv72 l) (st98 l), (ex98 l).map (·.2)⟩
theorem loop98 (l : List (Int × Int)) (hl : l.length < 1000000) : LoopOK (X [e95]) L98_0 ⟨chk 0 [0, 1, 7, 8] (inv72 l) (st98 l), (ex98 l).map (·.2)⟩ (RetR (X [e95]) true false [.tmp 4] [.int .i64 (fnp l)] []) := by
 refine loop_ok (X_ok [e95]) (H := fun _ _ => none) [0, 1, 7, 8] (inv72 l) (st98 l) (fun k => l.length - k) (ex98 l) 80 fun (k : Nat) hk => ?_
 refine of_eq (q := (fun (d : Int) => (fun (c : Prop) => (fun (b : Int) => (fun (a : Bool) => c /\ (b < d -> c /\ c /\ c /\ c /\ c /\ idxPre b l.length /\ c /\ (c /\ c) /\ (a = true -> c /\ c /\ c /\ (b = fnp l /\ c) /\ c) /\ (a = false -> inR .i64 (b + 1) /\ c /\ ∃ (y : Nat), (inv72 l y /\ l.length - y < l.length - k) /\ (l = l /\ (c /\ c) /\ d = d /\ b + 1 = (y : Int) /\ c) /\ c)) /\ (¬b < d -> ∃ (y : Unit), posL l /\ c /\ c)) (decide ((l.getD k (0, 0)).fst <= 0))) ((k : Int))) (True)) ((l.length : Int))) (by kernel_rfl) ?_
 simp only [zz]
 obtain ⟨h1, h2⟩ := hk
 refine ⟨fun hk => ?_, fun hk => ?_⟩
 · have hk : k < l.length := by omega
   refine ⟨by unfold idxPre; omega, fun hx => ?_, fun hx => ⟨by simp only [inR]; omega, k + 1, ⟨⟨by omega, ?_⟩, by omega⟩, rfl⟩⟩
   · have hx : (l.getD k (0, 0)).1 <= 0 := by simpa using hx
     have hn : ¬ posL l := fun hp => by
       have hm : l.getD k (0, 0) ∈ l := getD_mem hk
       have := hp _ hm
       omega
     simp [fnp, hn, find_at hk h2 hx]
   · have hx : ¬ (l.getD k (0, 0)).1 <= 0 := by simpa using hx
     rw [take_getD (d := (0, 0)) hk]
     intro x hm
     simp at hm
     rcases hm with hm | hm
     · exact h2 x hm
     · subst hm; simp at hx; omega
 · have : l.take k = l := List.take_of_length_le (by omega)
   rw [this] at h2; exact h2
theorem call98 (l : List (Int × Int)) (hl : l.length < 1000000) : GCall Tryd.prog gl 98 true [.sl FR l, .clo 95 [] []] [] [.int .i64 (fnp l)] [] := by
 refine gcall_of (X := X [e95]) (X_ok [e95]) (f := 98) (fn := Tryd.f98) (c := bodyOf Tryd.f98) (by kernel_rfl) (by kernel_rfl) (view := false) (rvs := [.tmp 4]) (by kernel_rfl) (H := (H98 l)) 80 (by kernel_rfl) ?_
 have hL := loop98 l hl
 refine of_eq (q := (fun (a : Prop) => a /\ a /\ a /\ a /\ LoopOK (X [e95]) L98_0 { J := chk (0 : Nat) [(0 : Nat), (1 : Nat), (7 : Nat), (8 : Nat)] (inv72 l) (st98 l), exits := List.map (fun (x : List Nat × Ex) => x.snd) (ex98 l) } (RetR (X [e95]) true false [ResultVar.tmp (4 : Tmp)] [AV.int .i64 (fnp l)] []) /\ (∃ (y : Nat), inv72 l y /\ (l = l /\ (a /\ a) /\ (l.length : Int) = (l.length : Int) /\ (0 : Int) = (y : Int) /\ a) /\ a) /\ (∀ (y : Unit), posL l -> a /\ a /\ ((-1 : Int) = fnp l /\ a) /\ a) /\ a) (True)) (by kernel_rfl) ?_
 simp only [zz]
 exact ⟨hL, ⟨0, ⟨by omega, by simp⟩, rfl⟩, fun _ h => by simp [fnp, h]⟩
theorem fnp_ge (l : List (Int × Int)) : 0 <= fnp l ↔ ¬ posL l := by
 unfold fnp
 split
 · rename_i h; simp [h]
 · rename_i h; simp [h]
def e98 : Entry Tryd.prog gl := entryG 98 95 ⟨Tryd.f98, by kernel_rfl, by kernel_rfl, by kernel_rfl⟩ SF (fun l => l.length < 1000000) (fun l => [.int .i64 (fnp l)]) call98
theorem call94 (l : List (Int × Int)) (hl : l.length < 1000000) : GCall Tryd.prog gl 94 true [.sl FR l, .clo 95 [] []] [] [.bool (decide (¬ posL l))] [] := by
 refine gcall_of (X := X [e98]) (X_ok [e98]) (f := 94) (fn := Tryd.f94) (c := bodyOf Tryd.f94) (by kernel_rfl) (by kernel_rfl) (view := false) (rvs := [.tmp 4]) (by kernel_rfl) (H := fun _ => none) 80 (by kernel_rfl) ?_
 refine of_eq (q := True /\ True /\ True /\ (l.length + 1 <= 1000000 /\ True) /\ True /\ True /\ True /\ (decide ((0 : Int) <= fnp l) = decide ¬posL l /\ True) /\ True) (by kernel_rfl) ?_
 simp only [zz]
 exact ⟨by omega, by simp [fnp_ge]⟩
def e94 : Entry Tryd.prog gl := entryG 94 95 ⟨Tryd.f94, by kernel_rfl, by kernel_rfl, by kernel_rfl⟩ SF (fun l => l.length < 1000000) (fun l => [.bool (decide (¬ posL l))]) call94
theorem call71 (l : List (Int × Int)) (hl : l.length < 1000000) : GCall Tryd.prog gl 71 true [.sl FR l] [] [.bool (decide (posL l))] [] := by
 refine gcall_of (X := X [e94]) (X_ok [e94]) (f := 71) (fn := Tryd.f71) (c := bodyOf Tryd.f71) (by kernel_rfl) (by kernel_rfl) (view := false) (rvs := [.tmp 2]) (by kernel_rfl) (H := fun _ => none) 80 (by kernel_rfl) ?_
 refine of_eq (q := True /\ True /\ (l.length + 1 <= 1000000 /\ True) /\ True /\ True /\ True /\ ((!decide ¬posL l) = decide (posL l) /\ True) /\ True) (by kernel_rfl) ?_
 simp only [zz]
 exact ⟨by omega, by simp⟩
def e71 : Entry Tryd.prog gl := entry1 71 ⟨Tryd.f71, by kernel_rfl, by kernel_rfl, by kernel_rfl⟩ SF (fun l => l.length < 1000000) true (fun l => [.bool (decide (posL l))]) (fun _ => []) (call71)
theorem call64 (l : List (Int × Int)) (hl : l.length < 1000000) : GCall Tryd.prog gl 64 true [.sl FR l] [] [.bool (decide (chg l <= 1))] [] := by
 refine gcall_of (X := X [e65]) (X_ok [e65]) (f := 64) (fn := Tryd.f64) (c := bodyOf Tryd.f64) (by kernel_rfl) (by kernel_rfl) (view := false) (rvs := [.tmp 2]) (by kernel_rfl) (H := fun _ => none) 80 (by kernel_rfl) ?_
 refine of_eq (q := True /\ True /\ (l.length + 1 <= 1000000 /\ True) /\ True /\ True /\ True /\ (decide ((↑(chg l) : Int) <= 1) = decide (chg l <= 1) /\ True) /\ True) (by kernel_rfl) ?_
 simp only [zz]
 exact ⟨by omega, by congr 1; simp; omega⟩
def e64 : Entry Tryd.prog gl := entry1 64 ⟨Tryd.f64, by kernel_rfl, by kernel_rfl, by kernel_rfl⟩ SF (fun l => l.length < 1000000) true (fun l => [.bool (decide (chg l <= 1))]) (fun _ => []) (call64)
end Go.Am.Bern

/- Bern: values at the ends of pieces. -/
namespace Go.Am.Bern
open Go Go.Am Go.Proofs
theorem part_div {k D m : Nat} (hD : 0 < D) (hk : k <= D) (hm : D <= m) : part m (Rat.divInt k D) := by
 have hf : fr D k (Rat.divInt k D) := ⟨k, rfl, by omega, by omega⟩
 have hs := hf.spec (by omega)
 have e : (Rat.divInt (k : Int) (D : Int)).num * D = k * (Rat.divInt (k : Int) (D : Int)).den := by
   have h1 := Rat.num_divInt_den (Rat.divInt (k : Int) (D : Int))
   rwa [Rat.divInt_eq_divInt_iff (by have := (Rat.divInt (k : Int) (D : Int)).den_pos; omega) (by omega)] at h1
 have hp := (Rat.divInt (k : Int) (D : Int)).den_pos
 unfold part
 generalize (Rat.divInt (k : Int) (D : Int)).num = a at *
 generalize (Rat.divInt (k : Int) (D : Int)).den = b at *
 refine ⟨?_, ?_, ?_⟩
 · false_or_by_contra; rename_i h
   have h2 : a * (D : Int) < 0 := Int.mul_neg_of_neg_of_pos (by omega) (by omega)
   have h3 : (0 : Int) <= (k : Int) * (b : Int) := Int.mul_nonneg (by omega) (by omega)
   omega
 · false_or_by_contra; rename_i h
   have h2 : (b : Int) * (D : Int) < a * (D : Int) := Int.mul_lt_mul_of_pos_right (by omega) (by omega)
   have h3 : (k : Int) * (b : Int) <= (D : Int) * (b : Int) := Int.mul_le_mul_of_nonneg_right (by omega) (by omega)
   have h4 : (b : Int) * (D : Int) = (D : Int) * (b : Int) := Int.mul_comm _ _
   omega
 · have := hs.2.2.2.2; omega
theorem fracR_div {k D : Nat} (hD : 0 < D) : fracR k D = qp (Rat.divInt k D) := fracR_eq (by omega)
def at' (p : List Int) (k D : Nat) : Int := (hval (Rat.divInt k D) p).num
theorem errOf_poly {p : List Int} (h : ¬ ¬ errOf p = 0) : isPoly p := by
 false_or_by_contra; rename_i hn; exact h (by simp [errOf, hn])
theorem good_point {x : Int × Int} {m : Int} (h : isPoint x m) : good x := by
 unfold good rat
 rw [<- fracR_eq (by have := h.1; omega)]
 unfold fracR
 rw [h.2.2.2.2]; simp
def plainP (p : List Int) : Prop := ∀ k, k < 65 -> at' p k 64 ≠ 0
instance (p : List Int) : Decidable (plainP p) := inferInstanceAs (Decidable (∀ k, k < 65 -> at' p k 64 ≠ 0))
def inv61 (p : List Int) (k : Nat) : Prop := k <= 65 /\ ∀ j, j < k -> at' p j 64 ≠ 0
noncomputable def L61_0 : Code := lp (bodyOf Tryd.f61) 0
def st61 (p : List Int) (k : Nat) : St := ⟨.sl I64 p :: .dead :: .dead :: .dead :: .int .i64 k :: dd 9, []⟩
def ex61 (p : List Int) : List (List Nat × Ex) := [([], ⟨0, Unit, fun _ => plainP p, fun _ => ⟨dd 14, []⟩⟩)]
noncomputable def H61 (p : List Int) : Nat -> Option Hint := fun _ => some ⟨chk 0 [0, 4] (inv61 p) (st61 p), (ex61 p).map (·.2)⟩
theorem loop61 (p : List Int) (hp : isPoly p) : LoopOK (X [e74, e75]) L61_0 ⟨chk 0 [0, 4] (inv61 p) (st61 p), (ex61 p).map (·.2)⟩ (RetR (X [e74, e75]) true false [.tmp 2] [.bool (decide (plainP p))] []) := by
 refine loop_ok (X_ok [e74, e75]) (H := fun _ _ => none) [0, 4] (inv61 p) (st61 p) (fun k => 65 - k) (ex61 p) 80 fun (k : Nat) hk => ?_
 refine of_eq (q := (fun (e : Int) => (fun (d : Prop) => (fun (b : Int) => (fun (a : Int × Int) => (fun (c : Prop) => d /\ (b < 65 -> d /\ d /\ d /\ d /\ ((small b /\ small e /\ (0 : Int) < e) /\ d) /\ ((isPoly p /\ good a /\ part e (rat a)) /\ d) /\ d /\ d /\ (c -> d /\ d /\ (false = decide (plainP p) /\ d) /\ d) /\ (¬c -> inR .i64 (b + 1) /\ d /\ ∃ (y : Nat), (inv61 p y /\ (65 : Nat) - y < 65 - k) /\ (p = p /\ b + 1 = (y : Int) /\ d) /\ d)) /\ (¬b < 65 -> ∃ (y : Unit), plainP p /\ d /\ d)) ((hval (rat a) p).num = 0)) (((fracR b e).fst, (fracR b e).snd))) ((k : Int))) (True)) ((64 : Int))) (by kernel_rfl) ?_
 simp only [zz]
 obtain ⟨h1, h2⟩ := hk
 refine ⟨fun hk => ?_, fun hk j hj => h2 j (by omega)⟩
 have e : fracR (k : Int) 64 = qp (Rat.divInt k (64 : Nat)) := fracR_div (D := 64) (by omega)
 rw [e]
 simp only [qp_fst, qp_snd, rat_num_den]
 refine ⟨⟨by unfold small; omega, by unfold small; decide, by omega⟩, ⟨hp, good_nd _, part_div (k := k) (D := 64) (m := 64) (by decide) (by omega) (by decide)⟩, fun h => ?_, fun h => ⟨by simp only [inR]; omega, k + 1, ⟨⟨by omega, fun j hj => ?_⟩, by omega⟩, ?_⟩⟩
 · have hn : ¬ plainP p := fun hq => hq k (by omega) h
   simp [hn]
 · rcases Nat.lt_or_ge j k with hj' | hj'
   · exact h2 j hj'
   · rw [show j = k by omega]; exact h
 · rfl
theorem call61 (p : List Int) (hp : isPoly p) : GCall Tryd.prog gl 61 true [.sl I64 p] [] [.bool (decide (plainP p))] [] := by
 refine gcall_of (X := X [e74,e75]) (X_ok [e74,e75]) (f := 61) (fn := Tryd.f61) (c := bodyOf Tryd.f61) (by kernel_rfl) (by kernel_rfl) (view := false) (rvs := [.tmp 2]) (by kernel_rfl) (H := (H61 p)) 80 (by kernel_rfl) ?_
 have hL := loop61 p hp
 refine of_eq (q := True /\ True /\ LoopOK (X [e74, e75]) L61_0 { J := chk (0 : Nat) [(0 : Nat), (4 : Nat)] (inv61 p) (st61 p), exits := List.map (fun (x : List Nat × Ex) => x.snd) (ex61 p) } (RetR (X [e74, e75]) true false [ResultVar.tmp (2 : Tmp)] [AV.bool (decide (plainP p))] []) /\ (∃ (y : Nat), inv61 p y /\ (p = p /\ (0 : Int) = (y : Int) /\ True) /\ True) /\ (∀ (y : Unit), plainP p -> True /\ True /\ (true = decide (plainP p) /\ True) /\ True) /\ True) (by kernel_rfl) ?_
 simp only [zz]
 exact ⟨hL, ⟨0, ⟨by omega, fun j hj => by omega⟩, rfl⟩, fun _ h => by simp [h]⟩
def e61 : Entry Tryd.prog gl := entry1 61 ⟨Tryd.f61, by kernel_rfl, by kernel_rfl, by kernel_rfl⟩ SI (fun p => isPoly p) true (fun p => [.bool (decide (plainP p))]) (fun _ => []) (call61)
theorem point_part {x : Int × Int} {m : Nat} (h : isPoint x m) : good x /\ part m (rat x) := by
 have hg : good x := good_point h
 obtain ⟨h1, h2, h3, h4, h5⟩ := h
 have e : qp (rat x) = x := hg
 refine ⟨hg, ?_⟩
 have e1 : (rat x).num = x.1 := by rw [<- e]; simp
 have e2 : ((rat x).den : Int) = x.2 := by rw [<- e]; simp
 exact ⟨by omega, by omega, by omega⟩
end Go.Am.Bern

/- Bern: proofs that are checked; the first place. -/
namespace Go.Am.Bern
open Go Go.Am Go.Proofs
def posAt (p : List Int) (x : Int × Int) : Prop := posL (qs (cnr p x.1.toNat x.2.toNat))
instance (p : List Int) (x : Int × Int) : Decidable (posAt p x) := inferInstanceAs (Decidable (posL _))
def posP (p : List Int) : Prop := ∀ k, k < 64 -> posL (qs (cnr p 6 k))
instance (p : List Int) : Decidable (posP p) := inferInstanceAs (Decidable (∀ k, k < 64 -> posL (qs (cnr p 6 k))))
theorem cov_piece : ∀ {l : List (Int × Int)} {a : Int}, cov a l -> ∀ x ∈ l, isPiece x
 | [], _, _, x, hx => by simp at hx
 | y :: l, a, h, x, hx => by
   unfold cov at h
   rcases List.mem_cons.mp hx with hx | hx
   · rw [hx]; exact h.1
   · exact cov_piece h.2.2 x hx
def prf (p : List Int) (l : List (Int × Int)) : Prop := cov 0 l /\ ∀ x ∈ l, posAt p x
instance (p : List Int) (l : List (Int × Int)) : Decidable (prf p l) := inferInstanceAs (Decidable (_ /\ ∀ x ∈ l, posAt p x))
def inv28 (p : List Int) (l : List (Int × Int)) (k : Nat) : Prop := k <= l.length /\ ∀ x ∈ l.take k, posAt p x
noncomputable def L28_0 : Code := lp (bodyOf Tryd.f28) 0
def st28 (p : List Int) (l : List (Int × Int)) (k : Nat) : St := ⟨.sl I64 p :: .sl Q2 l :: .dead :: .dead :: .dead :: .int .i64 k :: dd 17, []⟩
def ex28 (p : List Int) (l : List (Int × Int)) : List (List Nat × Ex) := [([], ⟨0, Unit, fun _ => ∀ x ∈ l, posAt p x, fun _ => ⟨dd 23, []⟩⟩)]
noncomputable def H28 (p : List Int) (l : List (Int × Int)) : Nat -> Option Hint := fun _ => some ⟨chk 0 [0, 1, 5] (inv28 p l) (st28 p l), (ex28 p l).map (·.2)⟩
theorem loop28 (p : List Int) (l : List (Int × Int)) (hp : isPoly p) (hl : l.length < 1000000) (hc : cov 0 l) : LoopOK (X [e73, e16, e72]) L28_0 ⟨chk 0 [0, 1, 5] (inv28 p l) (st28 p l), (ex28 p l).map (·.2)⟩ (RetR (X [e73, e16, e72]) true false [.tmp 4] [.bool (decide (prf p l))] []) := by
 refine loop_ok (X_ok [e73, e16, e72]) (H := fun _ _ => none) [0, 1, 5] (inv28 p l) (st28 p l) (fun k => l.length - k) (ex28 p l) 80 fun (k : Nat) hk => ?_
 refine of_eq (q := (fun (d : Int) => (fun (c : Prop) => (fun (b : Int × Int) => (fun (a : List (Int × Int)) => c /\ c /\ c /\ c /\ (d < (l.length : Int) -> c /\ c /\ c /\ idxPre d l.length /\ c /\ ((isPoly p /\ isPiece (b.fst, b.snd)) /\ c) /\ (a.length + 1 <= 1000000 /\ c) /\ c /\ ((!decide (posL a)) = true -> c /\ c /\ (false = decide (prf p l) /\ c) /\ c) /\ ((!decide (posL a)) = false -> c /\ inR .i64 (d + 1) /\ c /\ ∃ (y : Nat), (inv28 p l y /\ l.length - y < l.length - k) /\ (p = p /\ l = l /\ d + 1 = (y : Int) /\ c) /\ c)) /\ (¬d < (l.length : Int) -> ∃ (y : Unit), (∀ (x : Int × Int), x ∈ l -> posAt p x) /\ c /\ c)) (qs (cnr p (Int.toNat b.fst) (Int.toNat b.snd)))) (l.getD k (0, 0))) (True)) ((k : Int))) (by kernel_rfl) ?_
 simp only [zz]
 obtain ⟨h1, h2⟩ := hk
 have hl' := fun d k => qc_length p d k
 unfold qc at hl'
 refine ⟨fun hk => ?_, fun hk => ?_⟩
 · have hk : k < l.length := by omega
   have hm : l.getD k (0, 0) ∈ l := getD_mem hk
   refine ⟨by unfold idxPre; omega, ⟨hp, cov_piece hc _ hm⟩, by rw [hl']; have := hp.2.1; omega, fun h => ?_, fun h => ⟨by simp only [inR]; omega, k + 1, ⟨⟨by omega, ?_⟩, by omega⟩, rfl⟩⟩
   · have hx : ¬ posAt p (l.getD k (0, 0)) := by unfold posAt; simpa using h
     have hn : ¬ prf p l := fun hq => hx (hq.2 _ hm)
     simp [hn]
   · have hx : posAt p (l.getD k (0, 0)) := by unfold posAt; simpa using h
     rw [take_getD (d := (0, 0)) hk]
     intro x hm
     rw [List.mem_append, List.mem_singleton] at hm
     rcases hm with hm | hm
     · exact h2 x hm
     · rw [hm]; exact hx
 · have : l.take k = l := List.take_of_length_le (by omega)
   rw [this] at h2; exact h2
theorem call28 (p : List Int) (l : List (Int × Int)) (hp : isPoly p /\ l.length < 1000000) : GCall Tryd.prog gl 28 true [.sl I64 p, .sl Q2 l] [] [.bool (decide (prf p l))] [] := by
 refine gcall_of (X := X [e73,e16,e72]) (X_ok [e73,e16,e72]) (f := 28) (fn := Tryd.f28) (c := bodyOf Tryd.f28) (by kernel_rfl) (by kernel_rfl) (view := false) (rvs := [.tmp 4]) (by kernel_rfl) (H := (H28 p l)) 80 (by kernel_rfl) ?_
 have hL := loop28 p l hp.1 hp.2
 refine of_eq (q := (fun (c : Prop) => (fun (b : Cy) => (fun (a : Bool) => c /\ c /\ (l.length + 1 <= 1000000 /\ c) /\ c /\ ((!decide (cov (0 : Int) l)) = true -> c /\ c /\ (false = a /\ c) /\ c) /\ ((!decide (cov (0 : Int) l)) = false -> c /\ LoopOK b L28_0 { J := chk (0 : Nat) [(0 : Nat), (1 : Nat), (5 : Nat)] (inv28 p l) (st28 p l), exits := List.map (fun (x : List Nat × Ex) => x.snd) (ex28 p l) } (RetR b true false [ResultVar.tmp (4 : Tmp)] [AV.bool a] []) /\ (∃ (y : Nat), inv28 p l y /\ (p = p /\ l = l /\ (0 : Int) = (y : Int) /\ c) /\ c) /\ (∀ (y : Unit), (∀ (x : Int × Int), x ∈ l -> posAt p x) -> c /\ c /\ (true = a /\ c) /\ c) /\ c)) (decide (prf p l))) (X [e73, e16, e72])) (True)) (by kernel_rfl) ?_
 simp only [zz]
 have := hp.2
 refine ⟨by omega, fun h => ?_, fun h => ?_⟩
 · have h : ¬ cov 0 l := by simpa using h
   have hn : ¬ prf p l := fun hq => h hq.1
   simp [hn]
 · have h : cov 0 l := by simpa using h
   exact ⟨hL h, ⟨0, ⟨by omega, by simp⟩, rfl⟩, fun _ h' => by simp [show prf p l from ⟨h, h'⟩]⟩
def e28 : Entry Tryd.prog gl := entry2 28 ⟨Tryd.f28, by kernel_rfl, by kernel_rfl, by kernel_rfl⟩ SI SQ (fun p l => isPoly p /\ l.length < 1000000) true (fun p l => [.bool (decide (prf p l))]) (fun _ _ => []) (call28)
def lowK (p : List Int) (D : Nat) : Nat -> Nat -> Option Rat
 | _, 0 => none
 | k, n + 1 => if at' p k D <= 0 then some (Rat.divInt k D) else lowK p D (k + 1) n
def lowD (p : List Int) : Nat -> Nat -> Option Rat
 | _, 0 => none
 | d, n + 1 => (lowK p (2 ^ d) 0 (2 ^ d + 1)).or (lowD p (d + 1) n)
def lowP (p : List Int) : Option Rat := lowD p 0 7
def lowQ (p : List Int) : Int × Int := match lowP p with | some x => qp x | none => (0, 0)
theorem pow_le6 {d : Nat} (h : d < 7) : 1 <= 2 ^ d /\ 2 ^ d <= 64 /\ (1 * (2 : Int) ^ d) = ((2 ^ d : Nat) : Int) :=
 ⟨Nat.pow_pos (by decide), Nat.pow_le_pow_right (n := 2) (by decide) (show d <= 6 by omega), by simp⟩
theorem fr2 (k d : Nat) : fracR k (1 * 2 ^ d) = qp (Rat.divInt k ((2 ^ d : Nat) : Int)) := by
 rw [show (1 * (2 : Int) ^ d) = ((2 ^ d : Nat) : Int) by simp]
 exact fracR_div (Nat.pow_pos (by decide))
theorem low_at {p : List Int} {D k : Nat} (hk : k <= D) (h : at' p k D <= 0) : lowK p D k (D + 1 - k) = some (Rat.divInt k D) := by
 rw [show D + 1 - k = (D - k) + 1 by omega, lowK, if_pos h]
theorem low_not {p : List Int} {D k : Nat} (hk : k <= D) (h : ¬ at' p k D <= 0) : lowK p D k (D + 1 - k) = lowK p D (k + 1) (D - k) := by
 rw [show D + 1 - k = (D - k) + 1 by omega, lowK, if_neg h]
def invA (p : List Int) (d : Nat) : Prop := d <= 7 /\ lowP p = lowD p d (7 - d)
def invB (p : List Int) (d k : Nat) : Prop := d < 7 /\ k <= 2 ^ d + 1 /\ lowP p = (lowK p (2 ^ d) k (2 ^ d + 1 - k)).or (lowD p (d + 1) (6 - d))
def low29 (p : List Int) : Int × Int := if isPoly p then lowQ p else (0, 0)
noncomputable def L29_0 : Code := lp (bodyOf Tryd.f29) 0
noncomputable def L29_2 : Code := lp (bodyOf Tryd.f29) 2
def st29 (p : List Int) (d : Nat) : St := ⟨.sl I64 p :: .dead :: .ptr 0 0 [] :: (dd 12 ++ .int .i64 d :: dd 24), [.bx (ofD Q2 (0, 0))]⟩
def ex29 (p : List Int) : List (List Nat × Ex) := [([2], ⟨0, Unit, fun _ => lowP p = none, fun _ => ⟨.dead :: .dead :: .ptr 0 0 [] :: dd 37, [.bx (ofD Q2 (0, 0))]⟩⟩)]
def st29b (p : List Int) (d : Nat) (k : Nat) : St := ⟨.sl I64 p :: .dead :: .ptr 0 0 [] :: .dead :: .dead :: .dead :: .int .i64 d :: (dd 8 ++ .int .i64 d :: (dd 5 ++ .int .i64 ((2 ^ d : Nat) + 1 : Int) :: .int .i64 k :: dd 17)), [.bx (ofD Q2 (0, 0))]⟩
def ex29b (p : List Int) (d : Nat) : List (List Nat × Ex) := [([0, 2, 15], ⟨2, Unit, fun _ => lowP p = lowD p (d + 1) (6 - d), fun _ => st29 p d⟩)]
noncomputable def H29b (p : List Int) (d : Nat) : Nat -> Option Hint := fun _ => some ⟨chk 0 [0, 2, 6, 15, 21, 22] (invB p d) (st29b p d), (ex29b p d).map (·.2)⟩
noncomputable def H29 (p : List Int) : Nat -> Option Hint := fun _ => some ⟨chk 0 [0, 2, 15] (invA p) (st29 p), (ex29 p).map (·.2)⟩
abbrev R29 (p : List Int) := RetR (X [e56, e74, e75, e76]) true false [.cell 2 48, .tmp 3, .tmp 4] [ofD Q2 (low29 p), .bool (decide (isPoly p) && (lowP p).isSome), .int .i64 (errOf p)] []
theorem loop29b (p : List Int) (hp : isPoly p) (d : Nat) (hd : d < 7) : LoopOK (X [e56, e74, e75, e76]) L29_2 ⟨chk 0 [0, 2, 6, 15, 21, 22] (invB p d) (st29b p d), (ex29b p d).map (·.2)⟩ (R29 p) := by
 refine loop_ok (X_ok [e56, e74, e75, e76]) (H := fun _ _ => none) [0, 2, 6, 15, 21, 22] (invB p d) (st29b p d) (fun k => 2 ^ d + 1 - k) (ex29b p d) 80 fun (k : Nat) hk => ?_
 refine of_eq (q := (fun (i : Int) => (fun (g : Int) => (fun (f : Prop) => (fun (e : Int) => (fun (c : Int) => (fun (b : List Int) => (fun (a : Int × Int) => (fun (h : Prop) => f /\ (i < c + g -> f /\ f /\ f /\ f /\ inR .u64 e /\ (((0 : Int) <= e /\ e < bitsOf .i64) /\ (-9223372036854775808 : Int) <= g * c /\ g * c <= 9223372036854775807) /\ ((small i /\ small (g * c) /\ (0 : Int) < g * c) /\ f) /\ f /\ f /\ f /\ f /\ ((isPoly p /\ good (a.fst, a.snd) /\ part (64 : Int) (rat (a.fst, a.snd))) /\ f) /\ f /\ f /\ (h -> f /\ (f /\ f) /\ f /\ f /\ f /\ (f /\ f) /\ ([a.fst, a.snd] = [(low29 p).fst, (low29 p).snd] /\ true = (decide (isPoly p) && (lowP p).isSome) /\ (0 : Int) = errOf p /\ f) /\ f) /\ (¬h -> inR .i64 (i + g) /\ f /\ ∃ (y : Nat), (invB p d y /\ (2 : Nat) ^ d + 1 - y < 2 ^ d + 1 - k) /\ (p = p /\ f /\ e = e /\ e = e /\ c + g = c + g /\ i + g = (y : Int) /\ f) /\ b = b /\ f)) /\ (¬i < c + g -> ∃ (y : Unit), lowP p = lowD p (d + 1) ((6 : Nat) - d) /\ (p = p /\ f /\ e = e /\ f) /\ b = b /\ f)) ((hval (rat (a.fst, a.snd)) p).num <= 0)) (fracR i (g * c))) ([(0 : Int), (0 : Int)])) ((2 : Int) ^ d)) ((d : Int))) (True)) ((1 : Int))) ((k : Int))) (by kernel_rfl) ?_
 simp only [zz]
 obtain ⟨_, h1, h2⟩ := hk
 have ⟨hp1, hp2, hp3⟩ := pow_le6 hd
 have hi1 : (1 : Int) <= ((2 ^ d : Nat) : Int) := Int.ofNat_le.mpr hp1
 have hi2 : ((2 ^ d : Nat) : Int) <= 64 := Int.ofNat_le.mpr hp2
 have hi3 : (2 : Int) ^ d = ((2 ^ d : Nat) : Int) := by simp
 rw [fr2, hp3, hi3]
 simp only [qp_fst, qp_snd, rat_num_den]
 have hb : (0 <= (d : Int) /\ (d : Int) < bitsOf IntKind.i64) /\ -9223372036854775808 <= ((2 ^ d : Nat) : Int) /\ ((2 ^ d : Nat) : Int) <= 9223372036854775807 := ⟨⟨by omega, by simp only [bitsOf]; omega⟩, by omega, by omega⟩
 refine ⟨fun hk => ⟨by simp only [inR]; omega, hb, ⟨by unfold small; omega, by unfold small; rw [Int.natAbs_natCast]; omega, by omega⟩, ⟨hp, good_nd _, part_div (k := k) (D := 2 ^ d) (m := 64) (by omega) (by omega) (by omega)⟩, fun h => ?_, fun h => ⟨by simp only [inR]; omega, k + 1, ⟨⟨hd, by omega, ?_⟩, by omega⟩, rfl⟩⟩, fun hk => ?_⟩
 · rw [low_at (by omega) h] at h2
   simp [low29, lowQ, h2, hp, errOf]
 · rw [h2, low_not (by omega) h]
   congr 2; omega
 · rw [h2, show 2 ^ d + 1 - k = 0 by omega]
   simp [lowK]
theorem loop29 (p : List Int) (hp : isPoly p) : LoopOK (X [e56, e74, e75, e76]) L29_0 ⟨chk 0 [0, 2, 15] (invA p) (st29 p), (ex29 p).map (·.2)⟩ (R29 p) := by
 refine loop_ok (X_ok [e56, e74, e75, e76]) (H := fun d => H29b p d) [0, 2, 15] (invA p) (st29 p) (fun d => 7 - d) (ex29 p) 80 fun (d : Nat) hk => ?_
 have hL := loop29b p hp d
 refine of_eq (q := (fun (g : Prop) => (fun (f : Int) => (fun (c : Int) => (fun (b : Int) => (fun (a : Int) => (fun (e : Prop) => g /\ (b < 7 -> g /\ g /\ g /\ inR .u64 b /\ (((0 : Int) <= b /\ b < bitsOf .i64) /\ (-9223372036854775808 : Int) <= c /\ c <= 9223372036854775807) /\ inR .i64 (c + f) /\ g /\ LoopOK (X [e56, e74, e75, e76]) L29_2 { J := chk (0 : Nat) [(0 : Nat), (2 : Nat), (6 : Nat), (15 : Nat), (21 : Nat), (22 : Nat)] (invB p d) (st29b p d), exits := List.map (fun (x : List Nat × Ex) => x.snd) (ex29b p d) } (R29 p) /\ (∃ (y : Nat), invB p d y /\ (p = p /\ g /\ b = b /\ b = b /\ c + f = 2 ^ d + f /\ (0 : Int) = (y : Int) /\ g) /\ e) /\ (∀ (y : Unit), lowP p = lowD p (d + 1) ((6 : Nat) - d) -> inR .i64 (b + f) /\ g /\ ∃ (y : Nat), (invA p y /\ (7 : Nat) - y < 7 - d) /\ (p = p /\ g /\ b + f = (y : Int) /\ g) /\ e) /\ g) /\ (¬b < 7 -> ∃ (y : Unit), lowP p = none /\ (g /\ g) /\ e)) ([a, a] = [a, a] /\ g)) ((0 : Int))) ((d : Int))) (f * 2 ^ d)) ((1 : Int))) (True)) (by kernel_rfl) ?_
 simp only [zz]
 obtain ⟨h1, h2⟩ := hk
 refine ⟨fun hd => ?_, fun hd => ?_⟩
 · have ⟨hp1, hp2, hp3⟩ := pow_le6 (d := d) (by omega)
   have hi1 : (1 : Int) <= ((2 ^ d : Nat) : Int) := Int.ofNat_le.mpr hp1
   have hi2 : ((2 ^ d : Nat) : Int) <= 64 := Int.ofNat_le.mpr hp2
   have hi3 : (2 : Int) ^ d = ((2 ^ d : Nat) : Int) := by simp
   have hb : (0 <= (d : Int) /\ (d : Int) < bitsOf IntKind.i64) /\ -9223372036854775808 <= ((2 ^ d : Nat) : Int) /\ ((2 ^ d : Nat) : Int) <= 9223372036854775807 := ⟨⟨by omega, by simp only [bitsOf]; omega⟩, by omega, by omega⟩
   rw [hp3, hi3]
   refine ⟨by simp only [inR]; omega, hb, by simp only [inR]; omega, hL (by omega), ⟨0, ⟨by omega, Nat.zero_le _, ?_⟩, rfl, rfl⟩, fun _ h => ⟨by simp only [inR]; omega, d + 1, ⟨⟨by omega, ?_⟩, by omega⟩, rfl⟩⟩
   · rw [h2, show 7 - d = (6 - d) + 1 by omega]; try rfl
   · rw [h, show 7 - (d + 1) = 6 - d by omega]
 · rw [h2, show 7 - d = 0 by omega]; try rfl
theorem call29 (p : List Int) (hp : p.length < 1000000) : GCall Tryd.prog gl 29 true [.sl I64 p] [] [ofD Q2 (low29 p), .bool (decide (isPoly p) && (lowP p).isSome), .int .i64 (errOf p)] [] := by
 refine gcall_of (X := X [e56,e74,e75,e76]) (X_ok [e56,e74,e75,e76]) (f := 29) (fn := Tryd.f29) (c := bodyOf Tryd.f29) (by kernel_rfl) (by kernel_rfl) (view := false) (rvs := [.cell 2 48, .tmp 3, .tmp 4]) (by kernel_rfl) (H := (H29 p)) 80 (by kernel_rfl) ?_
 have hL := loop29 p
 refine of_eq (q := (fun (e : Int) => (fun (d : Int) => (fun (c : Prop) => (fun (b : Prop) => (fun (a : Prop) => a /\ a /\ a /\ a /\ (p.length + 1 <= 1000000 /\ a) /\ a /\ a /\ a /\ (¬d = e -> a /\ a /\ a /\ a /\ a /\ (a /\ a) /\ (c /\ b /\ d = d /\ a) /\ a) /\ (¬¬d = e -> a /\ LoopOK (X [e56, e74, e75, e76]) L29_0 { J := chk (0 : Nat) [(0 : Nat), (2 : Nat), (15 : Nat)] (invA p) (st29 p), exits := List.map (fun (x : List Nat × Ex) => x.snd) (ex29 p) } (R29 p) /\ (∃ (y : Nat), invA p y /\ (p = p /\ a /\ e = (y : Int) /\ a) /\ [e, e] = [(0 : Int), (0 : Int)] /\ a) /\ (∀ (y : Unit), lowP p = none -> a /\ a /\ a /\ a /\ (a /\ a) /\ (c /\ b /\ e = d /\ a) /\ a) /\ a)) (True)) (false = (decide (isPoly p) && (lowP p).isSome))) ([e, e] = [(low29 p).fst, (low29 p).snd])) (errOf p)) ((0 : Int))) (by kernel_rfl) ?_
 simp only [zz]
 refine ⟨by omega, fun he => ?_, fun he => ?_⟩
 · have hn : ¬ isPoly p := fun h' => he (by simp [errOf, h'])
   simp [low29, hn]
 · have hy : isPoly p := errOf_poly he
   exact ⟨hL hy, ⟨0, ⟨by omega, rfl⟩, rfl⟩, fun _ h => by simp [low29, lowQ, h, errOf, hy]⟩
def e29 : Entry Tryd.prog gl := entry1 29 ⟨Tryd.f29, by kernel_rfl, by kernel_rfl, by kernel_rfl⟩ SI (fun p => p.length < 1000000) true (fun p => [ofD Q2 (low29 p), .bool (decide (isPoly p) && (lowP p).isSome), .int .i64 (errOf p)]) (fun _ => []) (call29)
end Go.Am.Bern
