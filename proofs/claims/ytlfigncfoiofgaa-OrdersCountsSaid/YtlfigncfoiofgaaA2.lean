/- Part A2 of the proof that the law named in the last file returns true at every input and leaves its arguments as they were; no condition of its own. -/
import Derived.Test.YtlfigncfoiofgaaA1
import Derived.RangeFuncRecord
import Derived.ProofKit
import Derived.OpenShut
import Derived.ChangeOld
import Derived.Below
import Derived.Deep.Slices
set_option linter.unusedSimpArgs false
set_option linter.unusedVariables false
/- The abstract machine, part 23n: calls that make one new object. -/
namespace Go.Am
open Go
section
variable {X : Cy} {G : En} {E : Env} {F : Nat → Prop} {st σ : St} {a : Act} {w : World}
/-- A block that a call has made becomes an object. -/
theorem Rel.newBlk (h : Rel G E F st a w) {n : Nat} (hf : st.fresh n = true) (x : Ob) (b cap : Nat) {w' : World} (N : Nat → Prop) (hg : w.grownBy w' none) (hN : ∀ b, N b → w.heap.size ≤ b ∧ b < w'.heap.size) (hb : w.heap.size ≤ b ∧ b < w'.heap.size ∧ ¬ N b)
   (hx : OR (E.set n b cap) (st.setO n x).inf (fun b => F b ∨ N b) w' n x) : Rel G (E.set n b cap) (fun b => F b ∨ N b) (st.setO n x) a w' := by
 obtain ⟨f1, f2, f3⟩ := St.fresh_spec hf
 have h1 := h.grown hg N hN
 have hA : ∀ q v, q ≠ n → Ag E (E.set n b cap) st.inf (st.setO n x).inf q v := fun q v hq => by
   cases v with
   | none => simp [Ag, Env.set, hq]
   | some v => exact fun i hi _ => ⟨by rw [St.inf_setO] at hi; simpa [hq] using hi, by simp [Env.set, hq], by simp [Env.set, hq]⟩
 have hlive : ∀ q, (st.setO n x).live q → q ≠ n → st.live q := fun q hq hn => by
   simp only [St.live, St.inf_setO, hn, if_false] at hq; exact hq
 refine { defers := h1.defers, size := h1.size, tms := ?_, obs := ?_, apart := ?_, inj := ?_, frz := h1.frz, new := h1.new, own := ?_, os := h1.os, tape := h1.tape, output := h1.output, grow := h1.grow, frame := h1.frame, glob := h1.glob, stay := ?_, live0 := ?_ }
 · intro i y hy
   exact (h1.tms i y hy).mono (fun b hb => ⟨hb, rfl⟩) (fun q v hq => hA q v (fun e => by have hq := AV.names_of_has hq; rw [e] at hq; rw [f2 i y hy] at hq; cases hq))
 · intro q y hy
   by_cases hq : q = n
   · subst hq
     simp only [St.setO, setOb_get, if_true] at hy
     injection hy with hy; subst hy
     exact hx
   · simp only [St.setO, setOb_get, hq, if_false] at hy
     have hold : y = .gone ∨ st.ob[q]? = some y := by
       by_cases hlt : q < n
       · simp only [hlt, if_true] at hy
         injection hy with hy
         cases hl : st.ob[q]? with
         | none => left; rw [← hy]; simp [List.getD_eq_getElem?_getD, hl]
         | some z => right; rw [← hy]; simp [List.getD_eq_getElem?_getD, hl]
       · simp only [hlt, if_false] at hy
         exact .inr hy
     rcases hold with rfl | hold
     · trivial
     · refine (h1.obs q y hold).mono (fun b hb => ⟨hb, rfl⟩) (fun r v hr => hA r v (fun e => by have hr := Ob.names_of_has hr; rw [e] at hr; rw [f3 q y hold] at hr; cases hr)) (fun hl => ?_)
       exact ⟨by simp [Env.set, hq], by simp [Env.set, hq], rfl⟩
 · intro q hq
   by_cases hn : q = n
   · subst hn
     simp only [Env.set, if_true]
     refine ⟨fun hh => ?_, hb.2.1⟩
     rcases hh with hh | hh
     · have := h.frz _ hh; omega
     · exact hb.2.2 hh
   · have := h1.apart q (hlive q hq hn)
     simp only [Env.set, hn, if_false]
     exact this
 · intro q q' hq hq' he
   by_cases hn : q = n <;> by_cases hn' : q' = n
   · rw [hn, hn']
   · have := (h.apart q' (hlive q' hq' hn')).2
     simp [Env.set, hn, hn'] at he; omega
   · have := (h.apart q (hlive q hq hn)).2
     simp [Env.set, hn, hn'] at he; omega
   · simp [Env.set, hn, hn'] at he
     exact h.inj q q' (hlive q hq hn) (hlive q' hq' hn') he
 · intro q hq
   by_cases hn : q = n
   · subst hn; left; simp [Env.set]; have := h.grow; omega
   · have := h.own q (hlive q hq hn)
     simpa [Env.set, hn] using this
 · intro q i hq hi h0
   have hqn : q ≠ n := fun e => by have := h.live0 q hq; rw [e, St.live, f1] at this; cases this
   rw [St.inf_setO, if_neg hqn] at hi
   simpa [Env.set, hqn] using h.stay q i hq hi h0
 · intro q hq
   have hqn : q ≠ n := fun e => by have := h.live0 q hq; rw [e, St.live, f1] at this; cases this
   have := h.live0 q hq
   simpa [St.live, St.inf_setO, hqn] using this
/-- A call to which nothing is lent, and which returns one slice of its own. -/
def callN (X : Cy) (st : St) (nid : Nat) (c : Call) : Option (Ob × AV × Prop) :=
 match c.callee with
 | .value g => (match evalA X.gl st g, evalL X.gl st c.args.toList with
   | some (.clo f l m), some xs => (match noTup xs, trL st [] (l ++ (xs ++ m)) with
     | true, some ys => (match X.Γ f ys [] with
       | some r => (match r.2.1 || AV.underL 0 (l ++ (xs ++ m)), r.2.2.1, r.2.2.2 with
         | true, [.own 0 v], [.sc v' T e zs] => (match Nat.beq v v' with
           | true => some (.sc v T e zs, .own nid v, r.1)
           | false => none)
         | _, _, _ => none)
       | none => none)
     | _, _ => none)
   | _, _ => none)
 | _ => none
theorem run_callN {ro : Option Nat} (hX : X.Ok) (hG : G.gl = X.gl) (h : Rel G E F st a w) (hs : Rel G E F σ a w) {nid : Nat} (hf : st.fresh nid = true) {o : Oper} {c : Call} (ho : o.op = .call c) {ob : Ob} {v : AV} {p : Prop} (he : callN X σ nid c = some (ob, v, p)) (hp : p)
   {next : Act → World → Prop} {Q : Exit → Act → World → Prop} (hnext : ∀ E' F' w' u, Rel G E' F' (st.setO nid ob) a w' → TR E' (st.setO nid ob).inf F' w' v u → next (a.put o.dst u) w') : o.wpIn (Fw ro) 0 X.P a w next Q := by
 unfold callN at he
 split at he <;> try (cases he; done)
 rename_i g hc
 split at he <;> try (cases he; done)
 rename_i f l m xs hg hxs
 split at he <;> try (cases he; done)
 rename_i ys ht hys
 split at he <;> try (cases he; done)
 rename_i r hr
 split at he <;> try (cases he; done)
 rename_i ver ver' T e zs hsep hres hob
 split at he <;> try (cases he; done)
 rename_i hver
 have hver := Nat.eq_of_beq_eq_true hver
 subst hver
 injection he with he; injection he with h1 h2; injection h2 with h2 h3; subst h1 h2 h3
 rw [← hG] at hg hxs
 have hfn := one_cell (hs.eval hg) rfl
 simp only [CR] at hfn
 obtain ⟨vs, us, e1, e2, e3⟩ := hfn
 injection e1 with e1 _
 have hargs := hs.evalL hxs ht
 have hall := e2.append (hargs.append e3)
 obtain ⟨k1, k2⟩ := hX.Γ f ys [] r.1 r.2.1 r.2.2.1 r.2.2.2 hr hp
 rw [hob, hres] at k2
 have hen := hs.enter (ι := []) rfl hall hys rfl
 rw [hG] at hen
 have hgl : GlobOk X.gl F w := by have := h.glob; rwa [hG] at this
 have hrun : (execOp a.eval o).run X.P w = .ok (.enter f ((vs ++ ((c.args.toList.map a.eval) ++ us)).toArray)) w := by
   have : (vs.toArray ++ c.args.map a.eval ++ us.toArray) = (vs ++ ((c.args.toList.map a.eval) ++ us)).toArray := by
     apply Array.ext'
     simp
   simp only [execOp, ho, resolve, hc, e1, Deferred.ofValue, Sem.run_bind, Sem.run_pure, Result.andThen_ok, invoke]
   rw [this]
   exact run_callFunc_enters k1
 refine wpIn_of_run hrun (fun d h => nomatch h) ?_
 rw [Oper.uponIn_enter]
 refine ⟨fun h => (nomatch h), callsIn_Fw.mpr ?_⟩
 have hF0 : ∃ F0 : Nat → Prop, (∀ b, F0 b → FV E F σ [] (l ++ (xs ++ m) ++ obAVs σ []) b) ∧ (r.2.1 = false → F0 = FV E F σ [] (l ++ (xs ++ m) ++ obAVs σ [])) ∧ (∀ b, F0 b → F b) ∧ GlobOk X.gl F0 w := by
   cases hs1 : r.2.1 with
   | true => exact ⟨F, fun b hb => .inl hb, (fun e => nomatch e), fun b hb => hb, hgl⟩
   | false =>
     rw [hs1, Bool.false_or] at hsep
     refine ⟨_, fun b hb => hb, fun _ => rfl, fun b hb => ?_, hgl.mono fun b hb => ⟨.inl hb, rfl⟩⟩
     rcases hb with hb | ⟨o', _, _, hn, _⟩
     · exact hb
     · simp only [obAVs, List.append_nil] at hn
       have := AV.under_namesL hsep hn
       omega
 obtain ⟨F0, q1, q2, q3, q4⟩ := hF0
 refine (k2 _ _ F0 w _ q1 q2 q4 hen).mono ?_
 rintro e' w' ⟨E', F', a', rfl, R⟩
 have hgb : w.grownBy w' none := ⟨R.os, R.tape, R.output, R.grow, fun k hk _ => R.frame k hk fun o ho => absurd ho (Nat.not_lt_zero _)⟩
 have hlv : (St.mk [AV.own 0 ver] [Ob.sc ver T e zs]).live 0 := rfl
 have hap := R.apart 0 hlv
 have hown : w.heap.size ≤ E'.β 0 := by
   rcases R.own 0 hlv with g | g
   · exact g
   · exact absurd g.1 (Nat.not_lt_zero _)
 have hFF : ∀ b, F' b → (F b ∨ (F' b ∧ w.heap.size ≤ b)) ∧ w'.heap[b]? = w'.heap[b]? := fun b hb => ⟨by
   rcases R.new b hb with g | g
   · exact .inl (q3 b g)
   · exact .inr ⟨hb, g⟩, rfl⟩
 have hO := R.obs 0 (.sc ver T e zs) rfl
 have hOR : OR (E.set nid (E'.β 0) (E'.cap 0)) (st.setO nid (.sc ver T e zs)).inf (fun b => F b ∨ (F' b ∧ w.heap.size ≤ b)) w' nid (.sc ver T e zs) := by
   simp only [OR, Env.set, if_true] at hO ⊢
   obtain ⟨cs, g1, g2, g3, g4, g5, g6⟩ := hO
   exact ⟨cs, g1, g2, g3, g4, g5, CD.mono hFF g6⟩
 have h' := h.newBlk hf (.sc ver T e zs) (E'.β 0) (E'.cap 0) (fun b => F' b ∧ w.heap.size ≤ b) hgb (fun b hb => ⟨hb.2, R.frz b hb.1⟩) ⟨hown, hap.2, fun hh => hap.1 hh.1⟩ hOR
 refine hnext _ _ w' (retVal a'.tmps) h' ?_
 have hsz : a'.tmps.size = 1 := R.size
 have ht0 := R.tms 0 (.own 0 ver) rfl
 have hrv : retVal a'.tmps = a'.tmps.getD 0 undef := by
   unfold retVal
   rw [dif_pos hsz]
   simp [Array.getD_eq_getD_getElem?, hsz]
 rw [hrv]
 obtain ⟨t1, t2⟩ := ht0
 refine ⟨?_, t2⟩
 simp only [CR] at t1 ⊢
 obtain ⟨u1, u2, u3⟩ := t1
 refine ⟨u1, u2, fun n e2 hi => ?_⟩
 rw [St.inf_setO, if_pos rfl] at hi
 have := u3 n e2 hi
 simp only [Env.set, if_true]
 exact this
/-- A new object: by an operation or by a call. -/
def effNC (X : Cy) (st : St) (nid : Nat) (o : Oper) : Option (Ob × AV × Prop) :=
 match o.op with
 | .call c => (match c.callee with
   | .value _ => callN X st nid c
   | _ => effN X.toCx X.gl st nid o)
 | _ => effN X.toCx X.gl st nid o
end
end Go.Am

/- The abstract machine, part 23g: regions whose order is open, in which new objects are made. -/
namespace Go.Am
open Go
/-- A store to a new object, whatever the other objects are. -/
def StoreN (X : Cy) (n : Nat) (tm : List AV) (o : Oper) (j : Nat) (ob x : Ob) : Prop :=
 ∀ ob2 : List Ob, ob2[n + j]? = some ob → ∃ p, effS X.toCx X.gl ⟨tm, ob2⟩ o = some (n + j, x, p)
theorem effS_mono {X : Cx} {gl : Nat → Option ((t : Ty) × t.D)} {σ st : St} {o : Oper} {q : Nat} {x : Ob} {p : Prop} (h : effS X gl σ o = some (q, x, p)) (ht : ∀ (t : Nat) (y : AV), σ.tm[t]? = some y → y = .dead ∨ st.tm[t]? = some y) (hq : st.ob[q]? = σ.ob[q]?) : effS X gl st o = some (q, x, p) := by
 have hev : ∀ c v, evalA gl σ c = some v → evalA gl st c = some v := fun c v hv => by
   cases c with
   | tmp t =>
     simp only [evalA] at hv ⊢
     split at hv <;> try (cases hv; done)
     rename_i y hy
     rcases ht t y hy with rfl | h
     · cases hv
     · rw [h]; exact hv
   | _ => exact hv
 unfold effS at h ⊢
 split at h <;> try (cases h; done)
 rename_i T a v0 ho
 split at h <;> try (cases h; done)
 rename_i ti q' ver p' v hti hx hv
 split at h <;> try (cases h; done)
 rename_i c ob hc hob htu
 split at h <;> try (cases h; done)
 rename_i s c' hs hset
 split at h <;> try (cases h; done)
 rename_i ob' hb1 hb2 hwc
 have hqq : q' = q := by injection h with h; injection h
 subst hqq
 have hc' : content st q' ver = some c := by unfold content at hc ⊢; rw [hq]; exact hc
 rw [hob] at hq
 simp only [ho, hti, hev _ _ hx, hev _ _ hv, hc', hq, htu, hs, hset, hb1, hb2, hwc]
 exact h
/-- A plan: what each operation of the first m yields, and the objects that are made. -/
structure PlanN (X : Cy) (all : Array Oper) (m : Nat) (base : St) (s : Nat → St) (vals : Nat → AV) (news : Nat → Option Ob) (sto : Nat → Option (Nat × Ob)) : Prop where
 first : s 0 = base
 step : ∀ i, i < m → ∃ o, all[i]? = some o ∧ (s i).putB o.dst (vals i) = some (s (i + 1)) ∧
   (((∀ j x, sto j ≠ some (i, x)) ∧ guardOf all o (maskO all o (s i)) = some false ∧ vals i = .tup [] ∧ news i = none) ∨
    ((∀ j x, sto j ≠ some (i, x)) ∧ guardOf all o (maskO all o (s i)) = some true ∧ news i = none ∧ ∃ v p, effH X (maskO all o (s i)) o = some (v, p) ∧ p ∧ v.under base.ob.length = true ∧ ∀ E I F w u, TR E I F w v u → TR E I F w (vals i) u) ∨
    ((∀ j x, sto j ≠ some (i, x)) ∧ guardOf all o (maskO all o (s i)) = some true ∧ ∃ ob v p, effNC X (maskO all o (s i)) (base.ob.length + i) o = some (ob, v, p) ∧ p ∧ news i = some ob ∧ vals i = v ∧ v.under base.ob.length = false ∧ ob.under base.ob.length = true ∧ v.under (base.ob.length + i + 1) = true ∧
      (∀ q : Nat, base.ob.length ≤ q → q ≠ base.ob.length + i → v.names q = false)) ∨
    (guardOf all o (maskO all o (s i)) = some true ∧ o.dst = none ∧ news i = none ∧ ∃ j x ob, sto j = some (i, x) ∧ (∀ j' x', sto j' = some (i, x') → j' = j) ∧ news j = some ob ∧ vals i = .dead ∧ StoreN X base.ob.length (maskO all o (s i)).tm o j ob x))
 vals : ∀ i, i < m → ∀ q : Nat, base.ob.length ≤ q → (vals i).names q = true → q = base.ob.length + i ∧ (news i).isSome = true
 sto : ∀ j c x, sto j = some (c, x) → c < m ∧ Anc all c j ∧ x.under base.ob.length = true
 tm : AV.underL base.ob.length base.tm = true
 ob : Ob.underL base.ob.length base.ob = true
/-- The objects, some operations having run. -/
def newAt (news : Nat → Option Ob) (sto : Nat → Option (Nat × Ob)) (S : Nat → Bool) (j : Nat) : Ob := match S j, news j with
 | true, some ob => (match sto j with
   | some (c, x) => (match S c with
     | true => x
     | false => ob)
   | none => ob)
 | _, _ => .gone
def obAt (base : List Ob) (m : Nat) (news : Nat → Option Ob) (sto : Nat → Option (Nat × Ob)) (S : Nat → Bool) : List Ob := base ++ (List.range m).map (newAt news sto S)
theorem obAt_low {base : List Ob} {m : Nat} {news : Nat → Option Ob} {sto : Nat → Option (Nat × Ob)} {S : Nat → Bool} {o : Nat} (h : o < base.length) : (obAt base m news sto S)[o]? = base[o]? := by
 unfold obAt; rw [List.getElem?_append_left h]
theorem obAt_new {base : List Ob} {m : Nat} {news : Nat → Option Ob} {sto : Nat → Option (Nat × Ob)} {S : Nat → Bool} {j : Nat} (h : j < m) : (obAt base m news sto S)[base.length + j]? = some (newAt news sto S j) := by
 unfold obAt
 rw [List.getElem?_append_right (by omega), Nat.add_sub_cancel_left]
 simp [h]
theorem obAt_high {base : List Ob} {m : Nat} {news : Nat → Option Ob} {sto : Nat → Option (Nat × Ob)} {S : Nat → Bool} {o : Nat} (h : base.length + m ≤ o) : (obAt base m news sto S)[o]? = none := by
 unfold obAt
 rw [List.getElem?_append_right (by omega)]
 simp; omega
theorem obAt_ext {base : List Ob} {m : Nat} {news : Nat → Option Ob} {sto : Nat → Option (Nat × Ob)} {S T : Nat → Bool} (h : ∀ j, j < m → newAt news sto S j = newAt news sto T j) : obAt base m news sto S = obAt base m news sto T := by
 unfold obAt
 congr 1
 apply List.map_congr_left
 intro j hj
 exact h j (by simpa using hj)
theorem newAt_congr {news : Nat → Option Ob} {sto : Nat → Option (Nat × Ob)} {S T : Nat → Bool} {j : Nat} (h1 : S j = T j) (h2 : ∀ c x, sto j = some (c, x) → S c = T c) : newAt news sto S j = newAt news sto T j := by
 unfold newAt
 rw [h1]
 cases T j with
 | false => rfl
 | true =>
   cases news j with
   | none => rfl
   | some ob =>
     cases hs : sto j with
     | none => rfl
     | some q => simp only [h2 q.1 q.2 hs]
theorem newAt_none {news : Nat → Option Ob} {sto : Nat → Option (Nat × Ob)} {S : Nat → Bool} {j : Nat} (h : news j = none) : newAt news sto S j = .gone := by
 unfold newAt
 rw [h]
 cases S j <;> rfl
theorem newAt_under {n : Nat} {news : Nat → Option Ob} {sto : Nat → Option (Nat × Ob)} {S : Nat → Bool} {j : Nat} (h1 : ∀ ob, news j = some ob → ob.under n = true) (h2 : ∀ c x, sto j = some (c, x) → x.under n = true) : (newAt news sto S j).under n = true := by
 unfold newAt
 cases S j with
 | false => rfl
 | true =>
   cases hn : news j with
   | none => rfl
   | some ob =>
     cases hs : sto j with
     | none => exact h1 ob hn
     | some q =>
       simp only
       cases S q.1 with
       | true => exact h2 q.1 q.2 hs
       | false => exact h1 ob hn
theorem setO_obAt {tm : List AV} {base : List Ob} {m : Nat} {news : Nat → Option Ob} {sto : Nat → Option (Nat × Ob)} {S T : Nat → Bool} {i : Nat} {x : Ob} (hi : i < m) (h : ∀ k, newAt news sto T k = if k = i then x else newAt news sto S k) :
   St.setO ⟨tm, obAt base m news sto S⟩ (base.length + i) x = ⟨tm, obAt base m news sto T⟩ := by
 unfold St.setO
 congr 1
 apply List.ext_getElem?
 intro q
 rw [setOb_get]
 by_cases hq : q < base.length
 · rw [if_neg (by omega), if_pos (by omega), obAt_low hq]
   rw [List.getD_eq_getElem?_getD, obAt_low hq]
   simp [hq]
 · by_cases hq2 : q < base.length + m
   · obtain ⟨j, rfl⟩ : ∃ j, q = base.length + j := ⟨q - base.length, by omega⟩
     rw [obAt_new (by omega), obAt_new (by omega), h]
     by_cases e : j = i
     · subst e; simp
     · rw [if_neg (by omega), if_neg e, List.getD_eq_getElem?_getD]
       by_cases h3 : base.length + j < base.length + i
       · rw [if_pos h3, show (St.mk tm (obAt base m news sto S)).ob = obAt base m news sto S from rfl, obAt_new (by omega)]; rfl
       · rw [if_neg h3]
   · rw [if_neg (by omega), if_neg (by omega), obAt_high (by omega), obAt_high (by omega)]
section
variable {X : Cy} {G : En} {E : Env} {F : Nat → Prop} {st σ : St} {a : Act} {w : World}
theorem Rel.fewer (h : Rel G E F st a w) (hob : ∀ (o : Nat) (x : Ob), σ.ob[o]? = some x → st.ob[o]? = some x) (hlen : σ.tm.length = st.tm.length) (ht : ∀ (t : Nat) (y : AV), σ.tm[t]? = some y → y = .dead ∨ st.tm[t]? = some y)
   (h0 : ∀ o, o < G.m0 → σ.live o) : Rel G E F σ a w := by
 have hinf : ∀ o i, σ.inf o = some i → st.inf o = some i := fun o i hi => by
   simp only [St.inf] at hi ⊢
   cases hs : σ.ob[o]? with
   | none => rw [hs] at hi; cases hi
   | some x => rw [hs] at hi; rw [hob o x hs]; exact hi
 have hlive : ∀ o, σ.live o → st.live o := fun o ho => by
   obtain ⟨i, hi⟩ := Option.isSome_iff_exists.mp ho
   simp only [St.live, hinf o i hi]; rfl
 have hA : ∀ o v, Ag E E st.inf σ.inf o v := fun o v => by
   cases v with
   | none => rfl
   | some v => exact fun i hi _ => ⟨hinf o i hi, rfl, rfl⟩
 refine { defers := h.defers, size := by rw [h.size, hlen], tms := ?_, obs := ?_, apart := fun o ho => h.apart o (hlive o ho), inj := fun o o' ho ho' => h.inj o o' (hlive o ho) (hlive o' ho'), frz := h.frz, new := h.new, own := fun o ho => h.own o (hlive o ho), os := h.os, tape := h.tape, output := h.output, grow := h.grow, frame := h.frame, glob := h.glob, stay := fun o i ho hi => h.stay o i ho (hinf o i hi), live0 := h0 }
 · intro i y hy
   rcases ht i y hy with rfl | g
   · trivial
   · exact (h.tms i y g).mono (fun b hb => ⟨hb, rfl⟩) fun o v _ => hA o v
 · intro o x hx
   exact (h.obs o x (hob o x hx)).mono (fun b hb => ⟨hb, rfl⟩) (fun o v _ => hA o v) fun _ => ⟨rfl, rfl, rfl⟩
/-- A pure operation, in a state with fewer objects. -/
theorem run_effHN {ro : Option Nat} (hX : X.Ok) (hG : G.gl = X.gl) (h : Rel G E F st a w) (hs : Rel G E F σ a w) {N : Nat} (hinf : ∀ o, o < N → st.inf o = σ.inf o) {o : Oper} {v : AV} {p : Prop} (he : effH X σ o = some (v, p)) (hp : p) (hv : v.under N = true)
   {next : Act → World → Prop} {Q : Exit → Act → World → Prop} (hnext : ∀ E' F' w' u, Rel G E' F' st a w' → TR E' st.inf F' w' v u → next (a.put o.dst u) w') : o.wpIn (Fw ro) 0 X.P a w next Q := by
 have kpure : effQ X.toCx X.gl σ o = some (v, p) → o.wpIn (Fw ro) 0 X.P a w next Q := by
   intro he
   rw [← hG] at he
   obtain ⟨r, g1, g2⟩ := run_effQ hX.toOk hs he hp
   refine wpIn_of_run g1 (fun d h => nomatch h) ?_
   refine hnext _ _ _ _ h (g2.mono (fun b hb => ⟨hb, rfl⟩) fun o q hq => ?_)
   have hlt := AV.under_names hv (AV.names_of_has hq)
   cases q with
   | none => rfl
   | some q => exact fun i hi _ => ⟨by rw [← hinf o hlt]; exact hi, rfl, rfl⟩
 unfold effH at he
 split at he
 · exact run_bldV hX hG h hs he hp hnext
 · split at he
   · rename_i c ho
     split at he
     · exact run_callH hX hG h hs ho he hp hnext
     · exact kpure he
   · exact kpure he
theorem namedIn_of {n : Nat} : ∀ {l : List AV}, (∀ (i : Nat) (x : AV), l[i]? = some x → x.names n = false) → namedIn n l = false
 | [], _ => rfl
 | a :: l, h => by
   simp only [namedIn, Bool.or_eq_false_iff]
   exact ⟨h 0 a rfl, namedIn_of fun i x hx => h (i + 1) x (by simpa using hx)⟩
theorem namedInO_of {n : Nat} : ∀ {l : List Ob}, (∀ (i : Nat) (x : Ob), l[i]? = some x → x.names n = false) → namedInO n l = false
 | [], _ => rfl
 | a :: l, h => by
   simp only [namedInO, Bool.or_eq_false_iff]
   exact ⟨h 0 a rfl, namedInO_of fun i x hx => h (i + 1) x (by simpa using hx)⟩
theorem Ob.under_names {n o : Nat} {x : Ob} (h : x.under n = true) (h' : x.names o = true) : o < n := by
 cases x with
 | bx c => exact AV.under_names (a := c) h h'
 | lp C s j c => exact AV.under_names (a := c) h h'
 | _ => simp [Ob.names] at h'
theorem fresh_of {n : Nat} {st : St} (h1 : st.ob[n]? = none ∨ st.ob[n]? = some .gone) (h2 : ∀ (i : Nat) (x : AV), st.tm[i]? = some x → x.names n = false) (h3 : ∀ (i : Nat) (x : Ob), st.ob[i]? = some x → x.names n = false) : st.fresh n = true := by
 unfold St.fresh
 rw [namedIn_of h2, namedInO_of h3]
 rcases h1 with h1 | h1 <;> rw [h1] <;> rfl
/-- A new object, of a state with fewer objects. -/
theorem run_effNN {ro : Option Nat} (hX : X.Ok) (hG : G.gl = X.gl) (h : Rel G E F st a w) (hs : Rel G E F σ a w) {N nid : Nat} (hN : N ≤ nid) (hinf : ∀ o, o < N → st.inf o = σ.inf o) (hfs : σ.fresh nid = true) (hf : st.fresh nid = true) {o : Oper} {ob : Ob} {v : AV} {p : Prop}
   (he : effNC X σ nid o = some (ob, v, p)) (hp : p) (hob : ob.under N = true) (hv : ∀ q : Nat, N ≤ q → q ≠ nid → v.names q = false)
   {next : Act → World → Prop} {Q : Exit → Act → World → Prop} (hnext : ∀ E' F' w' u, Rel G E' F' (st.setO nid ob) a w' → TR E' (st.setO nid ob).inf F' w' v u → next (a.put o.dst u) w') : o.wpIn (Fw ro) 0 X.P a w next Q := by
 by_cases hcall : ∃ c g, o.op = .call c ∧ c.callee = .value g
 · obtain ⟨c, g, hc, hg⟩ := hcall
   simp only [effNC, hc, hg] at he
   exact run_callN hX hG h hs hf hc he hp hnext
 have he : effN X.toCx X.gl σ nid o = some (ob, v, p) := by
   unfold effNC at he
   split at he
   · rename_i c hc
     split at he
     · rename_i g hg
       exact absurd ⟨c, g, hc, hg⟩ hcall
     · exact he
   · exact he
 rw [← hG] at he
 obtain ⟨r, obj, cap, g1, g2, g3⟩ := run_effN hX.toOk hs hfs he hp
 have hA : ∀ q u, (q < N ∨ q = nid) → Ag (E.set nid w.heap.size cap) (E.set nid w.heap.size cap) (σ.setO nid ob).inf (st.setO nid ob).inf q u := fun q u hq => by
   cases u with
   | none => rfl
   | some u =>
     refine fun i hi _ => ⟨?_, rfl, rfl⟩
     rw [St.inf_setO] at hi ⊢
     by_cases e : q = nid
     · rw [if_pos e] at hi ⊢; exact hi
     · rw [if_neg e] at hi ⊢
       rw [← hinf q (hq.resolve_right e)]; exact hi
 refine wpIn_of_run g1 (fun d h => nomatch h) ?_
 refine hnext _ _ _ _ (h.newOb hf ob obj cap (g2.mono (fun b hb => ⟨hb, rfl⟩) (fun q u hq => hA q u (.inl (Ob.under_names hob (Ob.names_of_has hq)))) fun _ => ⟨rfl, rfl, rfl⟩)) (g3.mono (fun b hb => ⟨hb, rfl⟩) fun q u hq => hA q u ?_)
 have hn := AV.names_of_has hq
 by_cases hlt : q < N
 · exact .inl hlt
 · by_cases e : q = nid
   · exact .inr e
   · rw [hv q (by omega) e] at hn; cases hn
variable {all : Array Oper} {m : Nat} {base : St} {s : Nat → St} {vals : Nat → AV} {news : Nat → Option Ob} {sto : Nat → Option (Nat × Ob)}
theorem PlanN.at (hd : DrawOk all m) (hp : PlanN X all m base s vals news sto) : ∀ i, i ≤ m → (s i).ob = base.ob ∧ AtS all m base vals (fun j => Nat.blt j i) (s i).tm
 | 0, _ => by
   rw [hp.first]
   exact ⟨rfl, ⟨rfl, fun j o t _ hj => by simp at hj, fun t _ => rfl⟩⟩
 | i + 1, hi => by
   obtain ⟨h1, h2⟩ := PlanN.at hd hp i (by omega)
   obtain ⟨o, ho, hput, _⟩ := hp.step i (by omega)
   obtain ⟨e1, e2⟩ := St.putB_spec hput
   rw [e1]
   refine ⟨by rw [St.ob_put, h1], ?_⟩
   cases hdst : o.dst with
   | none =>
     refine ⟨h2.len, fun j p t hj hS hpj hdj => ?_, fun t ht => h2.old t fun j p hj hS => ht j p hj (by simp at hS ⊢; omega)⟩
     have hne : j ≠ i := fun e => by subst e; rw [ho] at hpj; injection hpj with hpj; subst hpj; rw [hdst] at hdj; cases hdj
     exact h2.new j p t hj (by simp at hS ⊢; omega) hpj hdj
   | some d =>
     have hlt := e2 d hdst
     refine ⟨by simp [St.put, h2.len], fun j p t hj hS hpj hdj => ?_, fun t ht => ?_⟩
     · simp only [St.put]
       by_cases hji : j = i
       · subst hji
         rw [ho] at hpj; injection hpj with hpj; subst hpj
         rw [hdst] at hdj; injection hdj with hdj; subst hdj
         simp [hlt]
       · have hne : d ≠ t := fun e => hd.dsts i o j p t (by omega) hj (fun e => hji e.symm) ho hpj hdj (by rw [hdst, e])
         rw [List.getElem?_set_ne hne]
         exact h2.new j p t hj (by simp at hS ⊢; omega) hpj hdj
     · simp only [St.put]
       have hne : d ≠ t := fun e => ht i o (by omega) (by simp) ho (by rw [hdst, e])
       rw [List.getElem?_set_ne hne]
       exact h2.old t fun j p hj hS => ht j p hj (by simp at hS ⊢; omega)
/-- What an operation reads is the same in any order. -/
theorem AtS.maskN (hd : DrawOk all m) (hp : PlanN X all m base s vals news sto) {S : Nat → Bool} {tm : List AV} (hS : Down all S) (ht : AtS all m base vals S tm) {i : Nat} (hi : i < m) (hSi : S i = false) {o : Oper} (ho : all[i]? = some o) (hanc : ∀ k ∈ edgesOf o, S k = true) :
   ∀ (t : Nat) (y : AV), (maskO all o (s i)).tm[t]? = some y → y = .dead ∨ tm[t]? = some y := by
 intro t y hy
 obtain ⟨h1, h2⟩ := hp.at hd i (by omega)
 rcases keepTm_kept hy with rfl | ⟨hy, hr⟩
 · exact .inl rfl
 right
 rw [Nat.zero_add] at hr
 have hSanc : ∀ j, Anc all i j → S j = true := fun j ha => by
   cases ha with
   | edge ho' hk => rw [ho] at ho'; injection ho' with ho'; subst ho'; exact hanc _ hk
   | more ho' hk ha => rw [ho] at ho'; injection ho' with ho'; subst ho'; exact hS.anc ha (hanc _ hk)
 by_cases hw : ∃ j p, j < m ∧ all[j]? = some p ∧ p.dst = some t
 · obtain ⟨j, p, hj, hpj, hdj⟩ := hw
   have huniq : ∀ j' p', j' < m → all[j']? = some p' → p'.dst = some t → j' = j := fun j' p' hj' hp' hd' => by
     by_cases e : j' = j
     · exact e
     · exact absurd hd' (hd.dsts j' p' j p t hj' hj e hp' hpj hdj)
   have hcase : Anc all i j ∨ (j = i ∨ Anc all j i) := by
     by_cases e : i = j
     · exact .inr (.inl e.symm)
     · rcases hd.reads i o j p t hi hj e ho hpj hdj hr with g | g
       · exact .inl g
       · exact .inr (.inr g)
   rcases hcase with g | g
   · have hji := g.lt hd
     have hSj := hSanc j g
     have v1 := h2.new j p t hj (by simpa using hji) hpj hdj
     have v2 := ht.new j p t hj hSj hpj hdj
     rw [v2, ← v1, hy]
   · have hSj : S j = false := by
       rcases g with g | g
       · rw [g]; exact hSi
       · cases hh : S j with
         | false => rfl
         | true => rw [hS.anc g hh] at hSi; cases hSi
     have hij : ¬ j < i := by
       rcases g with g | g
       · omega
       · have := g.lt hd; omega
     have v1 := h2.old t fun j' p' hj' hS' hp' hd' => by
       have := huniq j' p' hj' hp' hd'
       subst this
       simp at hS'; exact hij hS'
     have v2 := ht.old t fun j' p' hj' hS' hp' hd' => by
       have := huniq j' p' hj' hp' hd'
       subst this
       rw [hS'] at hSj; cases hSj
     rw [v2, ← v1, hy]
 · have v1 := h2.old t fun j' p' hj' _ hp' hd' => hw ⟨j', p', hj', hp', hd'⟩
   have v2 := ht.old t fun j' p' hj' _ hp' hd' => hw ⟨j', p', hj', hp', hd'⟩
   rw [v2, ← v1, hy]
/-- What the temporaries name. -/
theorem AtS.named (hp : PlanN X all m base s vals news sto) {S : Nat → Bool} {tm : List AV} (ht : AtS all m base vals S tm) (hlen : m ≤ all.size) : ∀ (t : Nat) (x : AV) (q : Nat), tm[t]? = some x → base.ob.length ≤ q → x.names q = true → ∃ j, j < m ∧ S j = true ∧ q = base.ob.length + j := by
 intro t x q hx hq hn
 by_cases hw : ∃ j o, j < m ∧ S j = true ∧ all[j]? = some o ∧ o.dst = some t
 · obtain ⟨j, o, hj, hS, ho, hd⟩ := hw
   rw [ht.new j o t hj hS ho hd] at hx
   injection hx with hx; subst hx
   exact ⟨j, hj, hS, (hp.vals j hj q hq hn).1⟩
 · rw [ht.old t fun j o hj hS ho hd => hw ⟨j, o, hj, hS, ho, hd⟩] at hx
   have := AV.under_names (AV.underL_get hp.tm hx) hn
   omega
/-- Any order will do. -/
theorem any_orderN {ro : Option Nat} {md : Region.Mode} (hX : X.Ok) (hG : G.gl = X.gl) (hd : DrawOk all m) (hp : PlanN X all m base s vals news sto) (h0 : ∀ o, o < G.m0 → base.live o) {Q : Exit → Act → World → Prop}
   (htail : ∀ E F a w, Rel G E F ⟨(s m).tm, obAt base.ob m news sto (fun _ => true)⟩ a w → wpLs ro X.P all Q (all.toList.drop m) a w) : ∀ (fuel : Nat) (listed : Array Bool) (E : Env) (F : Nat → Prop) (a : Act) (w : World) (tm : List AV), listed.size = all.size →
     Down all (fun j => listed.getD j false) → (∀ j, m ≤ j → listed.getD j false = false) → cnt (fun j => listed.getD j false) all.size ≤ fuel → AtS all m base vals (fun j => listed.getD j false) tm → Rel G E F ⟨tm, obAt base.ob m news sto (fun j => listed.getD j false)⟩ a w →
     wpAnyIn (Fw ro) 0 X.P md all Q fuel listed a w := by
 have hfull : ∀ (fuel : Nat) (listed : Array Bool) (E : Env) (F : Nat → Prop) (a : Act) (w : World) (tm : List AV), listed.size = all.size → (∀ j, m ≤ j → listed.getD j false = false) → (∀ j, j < m → listed.getD j false = true) →
     all.size = m + fuel → AtS all m base vals (fun j => listed.getD j false) tm → Rel G E F ⟨tm, obAt base.ob m news sto (fun j => listed.getD j false)⟩ a w → wpAnyIn (Fw ro) 0 X.P md all Q fuel listed a w := by
   intro fuel listed E F a w tm hsz hge hlt hf ht hr
   have hl : ∀ j, j < all.size → listed.getD j false = Nat.blt j m := fun j hj => by
     by_cases e : j < m
     · rw [hlt j e]; simpa using e
     · rw [hge j (by omega)]
       cases hb : Nat.blt j m with
       | false => rfl
       | true => simp at hb; omega
   have hst : (⟨tm, obAt base.ob m news sto (fun j => listed.getD j false)⟩ : St) = ⟨(s m).tm, obAt base.ob m news sto (fun _ => true)⟩ := by
     obtain ⟨h1, h2⟩ := hp.at hd m (Nat.le_refl _)
     have htm : tm = (s m).tm := by
       apply List.ext_getElem?
       intro t
       by_cases hw : ∃ j p, j < m ∧ all[j]? = some p ∧ p.dst = some t
       · obtain ⟨j, p, hj, hpj, hdj⟩ := hw
         rw [ht.new j p t hj (hlt j hj) hpj hdj, h2.new j p t hj (by simpa using hj) hpj hdj]
       · rw [ht.old t fun j p hj _ hpj hdj => hw ⟨j, p, hj, hpj, hdj⟩, h2.old t fun j p hj _ hpj hdj => hw ⟨j, p, hj, hpj, hdj⟩]
     rw [htm, obAt_ext (T := fun _ => true) fun j hj => newAt_congr (hlt j hj) fun c x hs => hlt c (hp.sto j c x hs).1]
   rw [hst] at hr
   exact tail_any hd fuel m listed a w hsz (Nat.le_refl _) hf.symm hl (htail E F a w hr)
 intro fuel
 induction fuel with
 | zero =>
   intro listed E F a w tm hsz hdn hge hc ht hr
   have hall := cnt_zero (Nat.le_zero.mp hc)
   have hmm : m = all.size := by
     have := hd.le
     by_cases e : m = all.size
     · exact e
     · have this : listed.getD m false = true := hall m (by omega)
       rw [hge m (Nat.le_refl _)] at this; cases this
   exact hfull 0 listed E F a w tm hsz hge (fun j hj => hall j (by omega)) (by omega) ht hr
 | succ fuel ih =>
   intro listed E F a w tm hsz hdn hge hc ht hr
   by_cases hmall : ∀ j, j < m → listed.getD j false = true
   · -- all of the pure part has run
     have hcount : all.size ≤ m + (fuel + 1) := by
       have : ∀ n, n ≤ all.size → (∀ j, j < m → listed.getD j false = true) → n ≤ m + cnt (fun j => listed.getD j false) n := by
         intro n
         induction n with
         | zero => intro _ _; omega
         | succ n ihn =>
           intro hn hj
           have := ihn (by omega) hj
           simp only [cnt]
           by_cases e : n < m
           · omega
           · have e1 := hge n (by omega)
             simp only [e1, Bool.false_eq_true, if_false]; omega
       have := this all.size (Nat.le_refl _) hmall
       omega
     -- fewer steps are left than there is fuel
     have hfuel : ∀ f g : Nat, f ≤ g → ∀ (listed : Array Bool) (a : Act) (w : World), wpAnyIn (Fw ro) 0 X.P md all Q f listed a w → wpAnyIn (Fw ro) 0 X.P md all Q g listed a w := by
       intro f
       induction f with
       | zero =>
         intro g _ listed a w h
         cases g with
         | zero => exact h
         | succ g => exact ⟨fun _ => h.2, fun i hi => by rw [h.1] at hi; cases hi⟩
       | succ f ihf =>
         intro g hg listed a w h
         cases g with
         | zero => omega
         | succ g => exact ⟨h.1, fun i hi => wpOpIn_mono (fun a w hh => ihf g (by omega) _ a w hh) (h.2 i hi)⟩
     have hle := hd.le
     exact hfuel (all.size - m) (fuel + 1) (by omega) listed a w (hfull _ listed E F a w tm hsz hge hmall (by omega) ht hr)
   · -- some of it has not
     have hex : ∃ j, j < m ∧ listed.getD j false = false := by
       refine Classical.byContradiction fun hne => hmall fun j hj => ?_
       cases hh : listed.getD j false with
       | true => rfl
       | false => exact absurd ⟨j, hj, hh⟩ hne
     have hle := hd.le
     refine ⟨fun hnil => ?_, fun i hi => ?_⟩
     · exfalso
       obtain ⟨rk, hrk⟩ := hd.rk md
       have : ∀ n j, rk j < n → j < m → listed.getD j false = false → False := by
         intro n
         induction n with
         | zero => intro j hj; omega
         | succ n ihn =>
           intro j hjn hj hf
           have ho : all[j]? = some all[j] := by simp [show j < all.size by omega]
           by_cases hk : ∀ e ∈ (all[j]).after.toList, Region.binds md e = true → listed.getD e.on false = true
           · have := ready_if (md := md) hsz ho hf hk
             rw [hnil] at this; cases this
           · have : ∃ e ∈ (all[j]).after.toList, Region.binds md e = true ∧ listed.getD e.on false = false := by
               refine Classical.byContradiction fun hne => hk fun k hk' hb => ?_
               cases hh : listed.getD k.on false with
               | true => rfl
               | false => exact absurd ⟨k, hk', hb, hh⟩ hne
             obtain ⟨k, hk1, hkb, hk2⟩ := this
             have := hrk j _ k hj ho hk1 hkb
             exact ihn k.on (by omega) this.1 hk2
       obtain ⟨j, h1, h2⟩ := hex
       exact this (rk j + 1) j (by omega) h1 h2
     · obtain ⟨o, ho, hnl, hedges⟩ := ready_of hsz hi
       have his := (Array.getElem?_eq_some_iff.mp ho).1
       have him : i < m := by
         refine Nat.lt_of_not_le fun hmi => ?_
         obtain ⟨j, hj1, hj2⟩ := hex
         have ha := hd.tail i j hmi his (by omega)
         have : listed.getD j false = true := by
           cases ha with
           | edge ho' hk => rw [ho] at ho'; injection ho' with ho'; subst ho'; exact hedges _ hk
           | more ho' hk ha => rw [ho] at ho'; injection ho' with ho'; subst ho'; exact hdn.anc ha (hedges _ hk)
         rw [this] at hj2; cases hj2
       obtain ⟨o', ho', hput, hcase⟩ := hp.step i him
       rw [ho] at ho'; injection ho' with ho'; subst ho'
       have hmk := AtS.maskN hd hp hdn ht him hnl ho hedges
       have hob : (maskO all o (s i)).ob = base.ob := (hp.at hd i (by omega)).1
       have hml : (maskO all o (s i)).tm.length = tm.length := by
         show (keepTm _ 0 (s i).tm).length = _
         rw [keepTm_length, ((hp.at hd i (by omega)).2).len, ht.len]
       have hlive : ∀ o', o' < G.m0 → (maskO all o (s i)).live o' := fun o' ho' => by
         have := h0 o' ho'
         simpa only [St.live, St.inf, hob] using this
       have hσ : Rel G E F (maskO all o (s i)) a w := hr.fewer (fun q x hx => by
         rw [hob] at hx
         have hlt := (List.getElem?_eq_some_iff.mp hx).1
         show (obAt _ _ _ _ _)[q]? = _
         rw [obAt_low hlt]; exact hx) hml hmk hlive
       obtain ⟨e1, e2⟩ := St.putB_spec hput
       have hsl : (s i).tm.length = tm.length := by rw [((hp.at hd i (by omega)).2).len, ht.len]
       have hS' : ∀ q, (listed.setIfInBounds i true).getD q false = if q = i then true else listed.getD q false := fun q => getD_set (by omega)
       have hinf : ∀ q, q < base.ob.length → (St.inf ⟨tm, obAt base.ob m news sto (fun j => listed.getD j false)⟩) q = (maskO all o (s i)).inf q := fun q hq => by
         simp only [St.inf, hob, obAt_low hq]
       -- behind it
       have hgo : ∀ E' F' w' u, Rel G E' F' ⟨tm, obAt base.ob m news sto (fun j => (listed.setIfInBounds i true).getD j false)⟩ a w' → TR E' (St.inf ⟨tm, obAt base.ob m news sto (fun j => (listed.setIfInBounds i true).getD j false)⟩) F' w' (vals i) u → wpAnyIn (Fw ro) 0 X.P md all Q fuel (listed.setIfInBounds i true) (a.put o.dst u) w' := by
         intro E' F' w' u hr' hT
         have hput' := hr'.put (d := o.dst) (x := vals i) (v := u) (fun t ht' => Nat.lt_of_lt_of_le (e2 t ht') (Nat.le_of_eq hsl)) fun _ => hT
         refine ih (listed.setIfInBounds i true) E' F' _ w' (St.put ⟨tm, obAt base.ob m news sto (fun j => (listed.setIfInBounds i true).getD j false)⟩ o.dst (vals i)).tm (by simpa using hsz) ?_ ?_ ?_ ?_ ?_
         · intro j p k hj hpj hk
           simp only [hS'] at hj ⊢
           by_cases e : k = i
           · simp [e]
           · simp only [e, if_false]
             by_cases ej : j = i
             · subst ej
               rw [ho] at hpj; injection hpj with hpj; subst hpj
               exact hedges k hk
             · simp only [ej, if_false] at hj
               exact hdn j p k hj hpj hk
         · intro j hj
           rw [hS', if_neg (by omega)]
           exact hge j hj
         · have := cnt_set (f := fun j => listed.getD j false) (g := fun j => (listed.setIfInBounds i true).getD j false) (i := i) his hnl (by simp [hS']) (fun j hj => by simp [hS', hj])
           omega
         · cases hdst : o.dst with
           | none =>
             refine ⟨ht.len, fun j p t hj hSj hpj hdj => ?_, fun t htt => ht.old t fun j p hj hSj => htt j p hj (by simp only [hS']; split <;> simp_all)⟩
             have hne : j ≠ i := fun e => by subst e; rw [ho] at hpj; injection hpj with hpj; subst hpj; rw [hdst] at hdj; cases hdj
             simp only [hS', hne, if_false] at hSj
             exact ht.new j p t hj hSj hpj hdj
           | some d =>
             have hlt := e2 d hdst
             refine ⟨by simp [St.put, ht.len], fun j p t hj hSj hpj hdj => ?_, fun t htt => ?_⟩
             · simp only [St.put]
               by_cases hji : j = i
               · subst hji
                 rw [ho] at hpj; injection hpj with hpj; subst hpj
                 rw [hdst] at hdj; injection hdj with hdj; subst hdj
                 have : d < tm.length := Nat.lt_of_lt_of_le hlt (Nat.le_of_eq hsl)
                 simp [this]
               · have hne : d ≠ t := fun e => hd.dsts i o j p t him hj (fun e => hji e.symm) ho hpj hdj (by rw [hdst, e])
                 rw [List.getElem?_set_ne hne]
                 simp only [hS', hji, if_false] at hSj
                 exact ht.new j p t hj hSj hpj hdj
             · simp only [St.put]
               have hne : d ≠ t := fun e => htt i o him (by simp [hS']) ho (by rw [hdst, e])
               rw [List.getElem?_set_ne hne]
               exact ht.old t fun j p hj hSj => htt j p hj (by simp only [hS']; split <;> simp_all)
         · have : (⟨(St.put ⟨tm, obAt base.ob m news sto (fun j => (listed.setIfInBounds i true).getD j false)⟩ o.dst (vals i)).tm, obAt base.ob m news sto (fun j => (listed.setIfInBounds i true).getD j false)⟩ : St) = St.put ⟨tm, obAt base.ob m news sto (fun j => (listed.setIfInBounds i true).getD j false)⟩ o.dst (vals i) := by
             cases o.dst <;> rfl
           rw [this]; exact hput'
       have hsame : (∀ j x, sto j ≠ some (i, x)) → news i = none → obAt base.ob m news sto (fun j => (listed.setIfInBounds i true).getD j false) = obAt base.ob m news sto (fun j => listed.getD j false) := fun hns hn => by
         refine obAt_ext fun j hj => ?_
         by_cases e : j = i
         · subst e; rw [newAt_none hn, newAt_none hn]
         · refine newAt_congr (by rw [hS', if_neg e]) fun c x hs => ?_
           rw [hS', if_neg]
           intro ec; subst ec; exact hns j x hs
       unfold wpOpIn
       simp only [ho]
       rcases hcase with ⟨hst, hg, hv, hn⟩ | ⟨hst, hg, hn, v, p, hv, hpp, hun, himp⟩ | ⟨hst, hg, ob, v, p, hv, hpp, hn, hval, _, hou, _, hvn⟩ | ⟨hg, hd0, hn, j, x, ob, hsj, hun, hnj, hsn⟩
       · rw [if_neg (by rw [guardOf_wanted hσ hg]; simp)]
         rw [hsame hst hn] at hgo
         exact ⟨fun _ _ => trivial, hgo E F w undef hr (by rw [hv]; simp only [TR]; exact ⟨[], rfl, by simp only [VRs]⟩)⟩
       · rw [if_pos (guardOf_wanted hσ hg)]
         rw [hsame hst hn] at hgo
         exact (run_effHN hX hG hr hσ hinf hv hpp hun fun E' F' w' u hr' hT => hgo E' F' w' u hr' (himp _ _ _ _ _ hT))
       · rw [if_pos (guardOf_wanted hσ hg)]
         have hns : (news i).isSome = true := by rw [hn]; rfl
         have hnames : ∀ (t : Nat) (x : AV), (maskO all o (s i)).tm[t]? = some x → x.names (base.ob.length + i) = false := fun t x hx => by
           cases hnm : x.names (base.ob.length + i) with
           | false => rfl
           | true =>
             rcases keepTm_get hx with rfl | hx
             · simp [AV.names] at hnm
             · obtain ⟨j, _, hj, hq⟩ := AtS.named hp (hp.at hd i (by omega)).2 hd.le t x _ hx (Nat.le_add_right _ _) hnm
               have : j < i := by simpa using hj
               omega
         have hfσ : (maskO all o (s i)).fresh (base.ob.length + i) = true := fresh_of (.inl (by rw [hob]; simp)) hnames fun q x hx => by
           rw [hob] at hx
           cases hnm : x.names (base.ob.length + i) with
           | false => rfl
           | true => have := Ob.under_names (Ob.underL_get hp.ob hx) hnm; omega
         have hfs : St.fresh ⟨tm, obAt base.ob m news sto (fun j => listed.getD j false)⟩ (base.ob.length + i) = true := fresh_of (.inr (by
           rw [obAt_new him]
           simp only [newAt, hnl])) (fun t x hx => by
           cases hnm : x.names (base.ob.length + i) with
           | false => rfl
           | true =>
             obtain ⟨j, _, hj, hq⟩ := AtS.named hp ht hd.le t x _ hx (Nat.le_add_right _ _) hnm
             have : j = i := by omega
             subst this
             have hj' : listed.getD j false = true := hj
             rw [hnl] at hj'; cases hj') fun q x hx => by
           cases hnm : x.names (base.ob.length + i) with
           | false => rfl
           | true =>
             have hu : x.under base.ob.length = true := by
               by_cases hq : q < base.ob.length
               · rw [show (St.mk tm (obAt base.ob m news sto (fun j => listed.getD j false))).ob = obAt base.ob m news sto (fun j => listed.getD j false) from rfl, obAt_low hq] at hx
                 exact Ob.underL_get hp.ob hx
               · by_cases hq2 : q < base.ob.length + m
                 · rw [show q = base.ob.length + (q - base.ob.length) by omega, show (St.mk tm (obAt base.ob m news sto (fun j => listed.getD j false))).ob = obAt base.ob m news sto (fun j => listed.getD j false) from rfl, obAt_new (by omega)] at hx
                   injection hx with hx
                   subst hx
                   obtain ⟨_, _, _, hc⟩ := hp.step (q - base.ob.length) (by omega)
                   refine newAt_under (fun ob' hnb => ?_) fun c x hs => (hp.sto _ c x hs).2.2
                   rcases hc with ⟨_, _, _, hc⟩ | ⟨_, _, hc, _⟩ | ⟨_, _, ob2, _, _, _, _, hc, _, _, hc2, _⟩ | ⟨_, _, hc, _⟩
                   · rw [hc] at hnb; cases hnb
                   · rw [hc] at hnb; cases hnb
                   · rw [hc] at hnb; injection hnb with hnb; subst hnb; exact hc2
                   · rw [hc] at hnb; cases hnb
                 · rw [show (St.mk tm (obAt base.ob m news sto (fun j => listed.getD j false))).ob = obAt base.ob m news sto (fun j => listed.getD j false) from rfl, obAt_high (by omega)] at hx
                   cases hx
             have := Ob.under_names hu hnm; omega
         have hset : (St.setO ⟨tm, obAt base.ob m news sto (fun j => listed.getD j false)⟩ (base.ob.length + i) ob) = ⟨tm, obAt base.ob m news sto (fun j => (listed.setIfInBounds i true).getD j false)⟩ := by
           refine setO_obAt him fun k => ?_
           by_cases e : k = i
           · subst e
             rw [if_pos rfl]
             unfold newAt
             simp only [hS', if_true, hn]
             cases hs : sto k with
             | none => rfl
             | some q =>
               have hne : q.1 ≠ k := fun e => hst k q.2 (by rw [hs, ← e])
               have hl : listed.getD q.1 false = false := by
                 cases hh : listed.getD q.1 false with
                 | false => rfl
                 | true => rw [hdn.anc (hp.sto k q.1 q.2 hs).2.1 hh] at hnl; cases hnl
               simp only [hne, if_false, hl]
           · rw [if_neg e]
             refine newAt_congr (by rw [hS', if_neg e]) fun c x hs => ?_
             rw [hS', if_neg]
             intro ec; subst ec; exact hst k x hs
         refine (run_effNN hX hG hr hσ (Nat.le_add_right _ _) hinf hfσ hfs hv hpp hou hvn fun E' F' w' u hr' hT => ?_)
         rw [hset] at hr' hT
         exact hgo E' F' w' u hr' (by rw [hval]; exact hT)
       · rw [if_pos (guardOf_wanted hσ hg)]
         obtain ⟨hc1, hc2, hc3⟩ := hp.sto j i x hsj
         have hji : j < i := hc2.lt hd
         have hSj : listed.getD j false = true := by
           cases hc2 with
           | edge ho' hk => rw [ho] at ho'; injection ho' with ho'; subst ho'; exact hedges _ hk
           | more ho' hk ha => rw [ho] at ho'; injection ho' with ho'; subst ho'; exact hdn.anc ha (hedges _ hk)
         have hgetj : (obAt base.ob m news sto (fun j => listed.getD j false))[base.ob.length + j]? = some ob := by
           rw [obAt_new (by omega)]
           unfold newAt
           simp only [hSj, hnj, hsj, hnl]
         obtain ⟨p, he⟩ := hsn.2 _ hgetj
         have he' := effS_mono (st := ⟨tm, obAt base.ob m news sto (fun j => listed.getD j false)⟩) he hmk rfl
         rw [← hG] at he'
         obtain ⟨w2, g1, g2⟩ := run_effS hX.toOk hr he'
         refine wpIn_of_run g1 (fun d h => nomatch h) ?_
         have hset : (St.setO ⟨tm, obAt base.ob m news sto (fun j => listed.getD j false)⟩ (base.ob.length + j) x) = ⟨tm, obAt base.ob m news sto (fun j => (listed.setIfInBounds i true).getD j false)⟩ := by
           refine setO_obAt (by omega) fun k => ?_
           by_cases e : k = j
           · subst e
             rw [if_pos rfl]
             unfold newAt
             simp only [hS', if_true, show ¬ k = i by omega, if_false, hSj, hnj, hsj]
           · rw [if_neg e]
             by_cases e2 : k = i
             · subst e2; rw [newAt_none hn, newAt_none hn]
             · refine newAt_congr (by rw [hS', if_neg e2]) fun c y hs => ?_
               rw [hS', if_neg]
               intro ec; subst ec; exact e (hun k y hs)
         rw [hset] at g2
         exact hgo E F w2 undef g2 (by rw [hsn.1]; trivial)
/-- Places that are empty may be added. -/
theorem Rel.pad (h : Rel G E F st a w) {l : List Ob} (hlow : ∀ o, o < st.ob.length → l[o]? = st.ob[o]?) (hx : ∀ (o : Nat) (x : Ob), l[o]? = some x → x = .gone ∨ st.ob[o]? = some x) : Rel G E F ⟨st.tm, l⟩ a w := by
 have hinf : (St.mk st.tm l).inf = st.inf := by
   funext o
   simp only [St.inf]
   by_cases ho : o < st.ob.length
   · rw [hlow o ho]
   · rw [show st.ob[o]? = none by simp; omega]
     cases hl : l[o]? with
     | none => rfl
     | some x =>
       rcases hx o x hl with rfl | h
       · rfl
       · have := (List.getElem?_eq_some_iff.mp h).1; omega
 refine { defers := h.defers, size := h.size, tms := ?_, obs := ?_, apart := ?_, inj := ?_, frz := h.frz, new := h.new, own := ?_, os := h.os, tape := h.tape, output := h.output, grow := h.grow, frame := h.frame, glob := h.glob, stay := by rw [hinf]; exact h.stay, live0 := ?_ }
 · intro i y hy; rw [hinf]; exact h.tms i y hy
 · intro o x ho
   rw [hinf]
   rcases hx o x ho with rfl | g
   · trivial
   · exact h.obs o x g
 · intro o ho; exact h.apart o (by simpa only [St.live, hinf] using ho)
 · intro o o' ho ho'; exact h.inj o o' (by simpa only [St.live, hinf] using ho) (by simpa only [St.live, hinf] using ho')
 · intro o ho; exact h.own o (by simpa only [St.live, hinf] using ho)
 · intro o ho; simpa only [St.live, hinf] using h.live0 o ho
theorem region_anyN {ro : Option Nat} (hX : X.Ok) (hG : G.gl = X.gl) {id : Nat} (hd : DrawOk all m) (hp : PlanN X all m base s vals news sto) {Q : Exit → Act → World → Prop}
   (htail : ∀ E F a w, Rel G E F ⟨(s m).tm, obAt base.ob m news sto (fun _ => true)⟩ a w → wpLs ro X.P all Q (all.toList.drop m) a w) (hr : Rel G E F base a w) : (Code.region id all true).wpIn (Fw ro) 0 X.P Q a w := by
 have hgrow : w.grownBy { w with drawn := w.drawn + 1 } none := ⟨rfl, rfl, rfl, Nat.le_refl _, fun _ _ _ => rfl⟩
 have hr' := hr.grown hgrow (fun _ => False) fun b hb => hb.elim
 have key : ∀ md, wpAnyIn (Fw ro) 0 X.P md all Q all.size (Array.replicate all.size false) a { w with drawn := w.drawn + 1 } := fun md => by
   have h0 : ∀ j, (Array.replicate all.size false).getD j false = false := fun j => by
     simp only [Array.getD_eq_getD_getElem?, Array.getElem?_replicate]
     split <;> rfl
   refine any_orderN hX hG hd hp hr.live0 htail all.size _ E _ a _ base.tm (by simp) (fun j o k hj => ?_) (fun j _ => h0 j) ?_ ⟨rfl, fun j o t _ hj => ?_, fun t _ => rfl⟩ (hr'.pad (fun o ho => ?_) fun o x hx => ?_)
   · simp only [h0] at hj; cases hj
   · have : ∀ n, cnt (fun j => (Array.replicate all.size false).getD j false) n ≤ n := by
       intro n
       induction n with
       | zero => exact Nat.le_refl _
       | succ n ih => simp only [cnt]; split <;> omega
     exact this _
   · simp only [h0] at hj; cases hj
   · exact obAt_low ho
   · by_cases ho : o < base.ob.length
     · rw [obAt_low ho] at hx; exact .inr hx
     · by_cases ho2 : o < base.ob.length + m
       · rw [show o = base.ob.length + (o - base.ob.length) by omega, obAt_new (by omega)] at hx
         injection hx with hx; subst hx
         simp only [newAt, h0]; exact .inl trivial
       · rw [obAt_high (by omega)] at hx; cases hx
 refine wpIn_region_draw fun t => ?_
 unfold Region.schedule
 split
 · exact wpAnyIn_sound all.size t _ a _ (key .any)
 · exact wpAnyIn_sound all.size _ _ a _ (key _)
end
end Go.Am

/- The abstract machine, part 23h: regions whose order is open, with one call to which objects are lent. -/
namespace Go.Am
open Go
section
variable {tm tm2 : List AV} {ob : List Ob}
theorem trL_ob (ι : List Nat) (x : List AV) : trL ⟨tm, ob⟩ ι x = trL ⟨tm2, ob⟩ ι x := by kernel_rfl
theorem trOs_ob (ι x : List Nat) : trOs ⟨tm, ob⟩ ι x = trOs ⟨tm2, ob⟩ ι x := by kernel_rfl
theorem reach_ob (n : Nat) (ι x : List Nat) : reach ⟨tm, ob⟩ n ι x = reach ⟨tm2, ob⟩ n ι x := by kernel_rfl
theorem obAVs_ob (ι : List Nat) : obAVs ⟨tm, ob⟩ ι = obAVs ⟨tm2, ob⟩ ι := by kernel_rfl
def noSc (ob : List Ob) : List Nat → Bool
 | [] => true
 | o :: l => (match ob[o]? with
   | some (.sc _ _ _ _) => false
   | _ => true) && noSc ob l
def Cy.zs (X : Cy) : Bool := match X.bs with
 | [] => false
 | _ :: _ => true
/-- Names no slice. -/
def clrV : Nat → List Ob → AV → Bool
 | _, [], _ => true
 | q, o :: l, x => (match o with
   | .sc _ _ _ _ => !x.names q
   | _ => true) && clrV (q + 1) l x
theorem clrV_get {x : AV} : ∀ {l : List Ob} {q o : Nat} {v : Nat} {te : TypeId} {e : Ty} {xs : List e.D}, clrV q l x = true → l[o]? = some (.sc v te e xs) → x.names (q + o) = false
 | [], q, o, v, te, e, xs, _, h => by simp at h
 | y :: l, q, 0, v, te, e, xs, h, hy => by
   simp at hy
   subst hy
   simp only [clrV, Bool.and_eq_true, Bool.not_eq_true'] at h
   exact h.1
 | y :: l, q, o + 1, v, te, e, xs, h, hy => by
   simp only [clrV, Bool.and_eq_true] at h
   have := clrV_get (l := l) (q := q + 1) (o := o) h.2 (by simpa using hy)
   rwa [show q + 1 + o = q + (o + 1) by omega] at this
def okV (X : Cy) (ob : List Ob) (x : AV) : Bool := x.under ob.length && (match X.zs with
 | true => clrV 0 ob x
 | false => true)
theorem clrV_none {x : AV} (hx : ∀ q, x.names q = false) : ∀ {l : List Ob} {q : Nat}, clrV q l x = true
 | [], _ => rfl
 | y :: l, q => by
   simp only [clrV, clrV_none hx, Bool.and_true]
   split
   · rw [hx]; rfl
   · rfl
theorem okV_none {X : Cy} {ob : List Ob} {x : AV} (h1 : x.under ob.length = true) (hx : ∀ q, x.names q = false) : okV X ob x = true := by
 unfold okV
 rw [h1, Bool.true_and]
 split
 · exact clrV_none hx
 · rfl
def okL (X : Cy) (ob : List Ob) : List AV → Bool
 | [] => true
 | a :: l => okV X ob a && okL X ob l
theorem okV_under {X : Cy} {ob : List Ob} {x : AV} (h : okV X ob x = true) : x.under ob.length = true := by
 simp only [okV, Bool.and_eq_true] at h
 exact h.1
theorem okL_under {X : Cy} {ob : List Ob} : ∀ {l : List AV}, okL X ob l = true → AV.underL ob.length l = true
 | [], _ => rfl
 | a :: l, h => by
   simp only [okL, Bool.and_eq_true] at h
   simp only [AV.underL, Bool.and_eq_true]
   exact ⟨okV_under h.1, okL_under h.2⟩
theorem okL_get {X : Cy} {ob : List Ob} : ∀ {l : List AV} {i : Nat} {x : AV}, okL X ob l = true → l[i]? = some x → okV X ob x = true
 | [], i, x, _, hx => by simp at hx
 | a :: l, 0, x, h, hx => by
   simp only [okL, Bool.and_eq_true] at h
   simp at hx; subst hx; exact h.1
 | a :: l, i + 1, x, h, hx => by
   simp only [okL, Bool.and_eq_true] at h
   exact okL_get h.2 (by simpa using hx)
theorem okL_of {X : Cy} {ob : List Ob} : ∀ {l : List AV}, (∀ (i : Nat) (x : AV), l[i]? = some x → okV X ob x = true) → okL X ob l = true
 | [], _ => rfl
 | a :: l, h => by
   simp only [okL, Bool.and_eq_true]
   exact ⟨h 0 a rfl, okL_of fun i x hx => h (i + 1) x (by simpa using hx)⟩
theorem okL_clr {X : Cy} {ob : List Ob} (hz : X.zs = true) {o v : Nat} {te : TypeId} {e : Ty} {xs : List e.D} (ho : ob[o]? = some (.sc v te e xs)) (w : Option Nat) : ∀ {l : List AV}, okL X ob l = true → hasIn o w l = false
 | [], _ => rfl
 | a :: l, h => by
   simp only [okL, Bool.and_eq_true] at h
   simp only [hasIn, Bool.or_eq_false_iff]
   refine ⟨?_, okL_clr hz ho w h.2⟩
   have h1 := h.1
   simp only [okV, hz, Bool.and_eq_true] at h1
   have h2 := clrV_get (o := o) h1.2 ho
   rw [Nat.zero_add] at h2
   cases hh : a.has o w with
   | false => rfl
   | true => rw [AV.names_of_has hh] at h2; cases h2
def scOk (X : Cy) (ob : List Ob) (ι : List Nat) : Bool := match X.zs with
 | true => true
 | false => noSc ob ι
theorem backO_ob {o : Nat} {x : Ob} (h : (match ob[o]? with | some (.sc _ _ _ _) => false | _ => true) = true) : backO ⟨tm, ob⟩ o x = backO ⟨tm2, ob⟩ o x := by
 unfold backO
 cases ho : ob[o]? with
 | none => simp [ho]
 | some y =>
   rw [ho] at h
   cases y <;> cases x <;> simp_all
theorem backO_z {X : Cy} {o : Nat} {x : Ob} {r : Nat × Prop} (hz : X.zs = true) (hu : okL X ob tm2 = true) (h : backO ⟨tm, ob⟩ o x = some r) : backO ⟨tm2, ob⟩ o x = some r := by
 unfold backO at h ⊢
 split at h
 · rename_i c c' h1
   simp only at h1
   rw [h1]; exact h
 · rename_i v te e xs v' te' e' xs' h1
   simp only at h1
   rw [h1]
   cases v' with
   | zero => exact h
   | succ k =>
     simp only at h ⊢
     split at h
     · rename_i hn
       have hn2 : St.noVer ⟨tm2, ob⟩ o (v + 1) = true := by
         simp only [St.noVer, Bool.and_eq_true, Bool.not_eq_true'] at hn ⊢
         exact ⟨⟨⟨okL_clr hz h1 _ hu, hn.1.1.2⟩, okL_clr hz h1 _ hu⟩, hn.2⟩
       rw [hn2]; exact h
     · cases h
 · rename_i h1; simp only at h1; rw [h1]; exact h
 · rename_i h1; simp only at h1; rw [h1]; exact h
 · cases h
theorem backs_ob {X : Cy} : ∀ {ι : List Nat} {l : List Ob} {r : List Nat × Prop}, scOk X ob ι = true → okL X ob tm2 = true → backs ⟨tm, ob⟩ ι l = some r → backs ⟨tm2, ob⟩ ι l = some r
 | [], _, _, _, _, h => h
 | _ :: _, [], _, _, _, h => h
 | o :: ι, x :: l, r, hn, hu, h => by
   have h1 : ∀ r, backO ⟨tm, ob⟩ o x = some r → backO ⟨tm2, ob⟩ o x = some r := fun r hr => by
     cases hz : X.zs with
     | true => exact backO_z hz hu hr
     | false =>
       simp only [scOk, hz, noSc, Bool.and_eq_true] at hn
       rw [← backO_ob (tm := tm) hn.1]; exact hr
   have h2 : scOk X ob ι = true := by
     unfold scOk at hn ⊢
     cases hz : X.zs with
     | true => rfl
     | false => rw [hz] at hn; simp only [noSc, Bool.and_eq_true] at hn; exact hn.2
   simp only [backs] at h ⊢
   split at h
   · rename_i a b ha hb
     rw [h1 _ ha, backs_ob h2 hu hb]; exact h
   · cases h
theorem leaveA_ob {X : Cy} {m0 : Nat} {ι : List Nat} {l : List AV} {sep : Bool} {res : List AV} {ob1 : List Ob} {st' : St} {res' : List AV} {p : Prop} (hn : scOk X ob ι = true) (hu : okL X ob tm2 = true)
   (h : leaveA m0 ⟨tm, ob⟩ ι l sep res ob1 = some (st', res', p)) : leaveA m0 ⟨tm2, ob⟩ ι l sep res ob1 = some (⟨tm2, st'.ob⟩, res', p) := by
 unfold leaveA at h ⊢
 have hu0 := hu
 have hu := okL_under hu
 split at h <;> try (cases h; done)
 rename_i r hr
 rw [backs_ob hn hu0 hr]
 try simp only
 split at h <;> try (cases h; done)
 rename_i a b ha hb
 try simp only [ha, hb]
 split at h <;> try (cases h; done)
 rename_i q1 q2 q3
 injection h with h; injection h with h1 h2; injection h2 with h2 h3
 subst h1 h2 h3
 simp only [hu, q2, q3]
theorem callWith_ob {X : Cy} {f : List AV → List Ob → Option (Prop × Bool × List AV × List Ob)} {xs : List AV} {ι : List Nat} {st' : St} {v : AV} {p : Prop} (hn : scOk X ob ι = true) (hu : okL X ob tm2 = true)
   (h : callWith X ⟨tm, ob⟩ f xs ι = some (st', v, p)) : callWith X ⟨tm2, ob⟩ f xs ι = some (⟨tm2, st'.ob⟩, v, p) := by
 unfold callWith at h ⊢
 rw [← trL_ob (tm := tm), ← trOs_ob (tm := tm)]
 split at h <;> try (cases h; done)
 rename_i ys ob0 h1 h2 h3
 try simp only [h1, h2, h3]
 split at h <;> try (cases h; done)
 rename_i r hr
 try simp only [hr]
 split at h <;> try (cases h; done)
 rename_i s hs
 injection h with h; injection h with e1 e2; injection e2 with e2 e3
 subst e1 e2 e3
 rw [← obAVs_ob (tm := tm), leaveA_ob hn hu (show leaveA X.m0 ⟨tm, ob⟩ ι (xs ++ obAVs ⟨tm, ob⟩ ι) r.2.1 r.2.2.1 r.2.2.2 = some (s.1, s.2.1, s.2.2) from hs)]
end
/-- A call to which objects are lent, in a state of which only what it reads is known: the objects behind it. -/
def callC (X : Cy) (st : St) (o : Oper) : Option (List Ob × AV × Prop) :=
 match o.op with
 | .call c => (match c.callee with
   | .value g => (match evalA X.gl st g, evalL X.gl st c.args.toList with
     | some (.clo f l m), some xs => (match noTup xs, X.lend f, scOk X st.ob (reach st 40 (AV.idsL (l ++ (xs ++ m))) []) with
       | true, true, true => (match callWith X st (X.Γat o.dst f) (l ++ (xs ++ m)) (reach st 40 (AV.idsL (l ++ (xs ++ m))) []) with
         | some r => some (r.1.ob, r.2.1, r.2.2)
         | none => none)
       | _, _, _ => none)
     | some (.yld q), some xs => (match noTup xs, scOk X st.ob (reach st 40 (AV.idsL (.yld q :: xs)) []) with
       | true, true => (match callWith X st X.Yl (.yld q :: xs) (reach st 40 (AV.idsL (.yld q :: xs)) []) with
         | some r => some (r.1.ob, r.2.1, r.2.2)
         | none => none)
       | _, _ => none)
     | _, _ => none)
   | _ => none)
 | .store _ _ _ => (match o.dst, effS X.toCx X.gl st o with
   | none, some (q, x, p) => some ((st.setO q x).ob, .dead, p)
   | _, _ => none)
 | _ => none
theorem evalA_more {gl : Nat → Option ((t : Ty) × t.D)} {σ st : St} (hm : ∀ (t : Nat) (y : AV), σ.tm[t]? = some y → y = .dead ∨ st.tm[t]? = some y) {x : Operand} {v : AV} (h : evalA gl σ x = some v) : evalA gl st x = some v := by
 unfold evalA at h ⊢
 split at h
 · rename_i t
   split at h <;> try (cases h; done)
   rename_i a ha
   rcases hm t a ha with rfl | hs
   · cases h
   · simp only [hs]; exact h
 · exact h
 · exact h
 · exact h
theorem evalL_more {gl : Nat → Option ((t : Ty) × t.D)} {σ st : St} (hm : ∀ (t : Nat) (y : AV), σ.tm[t]? = some y → y = .dead ∨ st.tm[t]? = some y) : ∀ {l : List Operand} {r : List AV}, evalL gl σ l = some r → evalL gl st l = some r
 | [], r, h => h
 | x :: l, r, h => by
   simp only [evalL] at h ⊢
   split at h <;> try (cases h; done)
   rename_i a m ha hl
   rw [evalA_more hm ha, evalL_more hm hl]
   exact h
theorem callC_callA {X : Cy} {σ st : St} {o : Oper} {ob1 : List Ob} {v : AV} {p : Prop} (hob : σ.ob = st.ob) (hm : ∀ (t : Nat) (y : AV), σ.tm[t]? = some y → y = .dead ∨ st.tm[t]? = some y) (hu : okL X st.ob st.tm = true)
   (hns : ∀ T x y, o.op ≠ .store T x y) (h : callC X σ o = some (ob1, v, p)) : callA X st o = some (⟨st.tm, ob1⟩, v, p) := by
 obtain ⟨tm, ob⟩ := σ
 obtain ⟨tm2, ob2⟩ := st
 simp only at hob hu
 subst hob
 unfold callC at h
 unfold callA
 split at h <;> try (cases h; done)
 rotate_left
 · rename_i T x y hc
   exact absurd hc (hns T x y)
 rename_i c hc
 simp only [hc]
 split at h <;> try (cases h; done)
 rename_i g hg
 simp only [hg]
 split at h <;> try (cases h; done)
 · rename_i f l m xs e1 e2
   rw [evalA_more hm e1, evalL_more hm e2]
   simp only
   split at h <;> try (cases h; done)
   rename_i h1 h2 h3
   simp only [h1, h2]
   rw [← reach_ob (tm := tm)]
   split at h <;> try (cases h; done)
   rename_i r hr
   injection h with h; injection h with q1 q2; injection q2 with q2 q3
   subst q1 q2 q3
   rw [callWith_ob h3 hu (show callWith X ⟨tm, ob⟩ (X.Γat o.dst f) _ _ = some (r.1, r.2.1, r.2.2) from hr)]
 · rename_i q xs e1 e2
   rw [evalA_more hm e1, evalL_more hm e2]
   simp only
   split at h <;> try (cases h; done)
   rename_i h1 h3
   simp only [h1]
   rw [← reach_ob (tm := tm)]
   split at h <;> try (cases h; done)
   rename_i r hr
   injection h with h; injection h with q1 q2; injection q2 with q2 q3
   subst q1 q2 q3
   rw [callWith_ob h3 hu (show callWith X ⟨tm, ob⟩ X.Yl _ _ = some (r.1, r.2.1, r.2.2) from hr)]
/-- An operation that only reads, with some objects. -/
def PureOk (X : Cy) (all : Array Oper) (o : Oper) (tm : List AV) (ob : List Ob) (v : AV) : Prop :=
 (guardOf all o ⟨keepTm (o.looksAt all) 0 tm, ob⟩ = some false ∧ v = .tup []) ∨
 (guardOf all o ⟨keepTm (o.looksAt all) 0 tm, ob⟩ = some true ∧ ∃ v0 p, effH X ⟨keepTm (o.looksAt all) 0 tm, ob⟩ o = some (v0, p) ∧ p ∧ ∀ E I F w u, TR E I F w v0 u → TR E I F w v u)
structure PlanC (X : Cy) (all : Array Oper) (m c : Nat) (base : St) (ob1 : List Ob) (s : Nat → St) (vals : Nat → AV) : Prop where
 first : s 0 = base
 cm : c < m
 step : ∀ i, i < m → ∃ o, all[i]? = some o ∧ (s i).putB o.dst (vals i) = some (s (i + 1)) ∧
   (i = c → (guardOf all o (maskO all o (s i)) = some true ∧ ∃ p, callC X (maskO all o (s i)) o = some (ob1, vals i, p) ∧ p) ∨ (guardOf all o (maskO all o (s i)) = some false ∧ vals i = .tup [] ∧ ob1 = base.ob)) ∧
   (i ≠ c → (¬ Anc all i c → PureOk X all o (s i).tm base.ob (vals i) ∧ okV X base.ob (vals i) = true) ∧ (¬ Anc all c i → PureOk X all o (s i).tm ob1 (vals i)))
 tm : okL X base.ob base.tm = true
section
variable {X : Cy} {G : En} {E : Env} {F : Nat → Prop} {st σ : St} {a : Act} {w : World}
variable {all : Array Oper} {m c : Nat} {base : St} {ob1 : List Ob} {s : Nat → St} {vals : Nat → AV}
theorem PlanC.at (hd : DrawOk all m) (hp : PlanC X all m c base ob1 s vals) : ∀ i, i ≤ m → (s i).ob = base.ob ∧ AtS all m base vals (fun j => Nat.blt j i) (s i).tm
 | 0, _ => by
   rw [hp.first]
   exact ⟨rfl, ⟨rfl, fun j o t _ hj => by simp at hj, fun t _ => rfl⟩⟩
 | i + 1, hi => by
   obtain ⟨h1, h2⟩ := PlanC.at hd hp i (by omega)
   obtain ⟨o, ho, hput, _⟩ := hp.step i (by omega)
   obtain ⟨e1, e2⟩ := St.putB_spec hput
   rw [e1]
   refine ⟨by rw [St.ob_put, h1], ?_⟩
   cases hdst : o.dst with
   | none =>
     refine ⟨h2.len, fun j p t hj hS hpj hdj => ?_, fun t ht => h2.old t fun j p hj hS => ht j p hj (by simp at hS ⊢; omega)⟩
     have hne : j ≠ i := fun e => by subst e; rw [ho] at hpj; injection hpj with hpj; subst hpj; rw [hdst] at hdj; cases hdj
     exact h2.new j p t hj (by simp at hS ⊢; omega) hpj hdj
   | some d =>
     have hlt := e2 d hdst
     refine ⟨by simp [St.put, h2.len], fun j p t hj hS hpj hdj => ?_, fun t ht => ?_⟩
     · simp only [St.put]
       by_cases hji : j = i
       · subst hji
         rw [ho] at hpj; injection hpj with hpj; subst hpj
         rw [hdst] at hdj; injection hdj with hdj; subst hdj
         simp [hlt]
       · have hne : d ≠ t := fun e => hd.dsts i o j p t (by omega) hj (fun e => hji e.symm) ho hpj hdj (by rw [hdst, e])
         rw [List.getElem?_set_ne hne]
         exact h2.new j p t hj (by simp at hS ⊢; omega) hpj hdj
     · simp only [St.put]
       have hne : d ≠ t := fun e => ht i o (by omega) (by simp) ho (by rw [hdst, e])
       rw [List.getElem?_set_ne hne]
       exact h2.old t fun j p hj hS => ht j p hj (by simp at hS ⊢; omega)
/-- What an operation reads is the same in any order. -/
theorem AtS.maskC (hd : DrawOk all m) (hp : PlanC X all m c base ob1 s vals) {S : Nat → Bool} {tm : List AV} (hS : Down all S) (ht : AtS all m base vals S tm) {i : Nat} (hi : i < m) (hSi : S i = false) {o : Oper} (ho : all[i]? = some o) (hanc : ∀ k ∈ edgesOf o, S k = true) :
   ∀ (t : Nat) (y : AV), (maskO all o (s i)).tm[t]? = some y → y = .dead ∨ tm[t]? = some y := by
 intro t y hy
 obtain ⟨h1, h2⟩ := hp.at hd i (by omega)
 rcases keepTm_kept hy with rfl | ⟨hy, hr⟩
 · exact .inl rfl
 right
 rw [Nat.zero_add] at hr
 have hSanc : ∀ j, Anc all i j → S j = true := fun j ha => by
   cases ha with
   | edge ho' hk => rw [ho] at ho'; injection ho' with ho'; subst ho'; exact hanc _ hk
   | more ho' hk ha => rw [ho] at ho'; injection ho' with ho'; subst ho'; exact hS.anc ha (hanc _ hk)
 by_cases hw : ∃ j p, j < m ∧ all[j]? = some p ∧ p.dst = some t
 · obtain ⟨j, p, hj, hpj, hdj⟩ := hw
   have huniq : ∀ j' p', j' < m → all[j']? = some p' → p'.dst = some t → j' = j := fun j' p' hj' hp' hd' => by
     by_cases e : j' = j
     · exact e
     · exact absurd hd' (hd.dsts j' p' j p t hj' hj e hp' hpj hdj)
   have hcase : Anc all i j ∨ (j = i ∨ Anc all j i) := by
     by_cases e : i = j
     · exact .inr (.inl e.symm)
     · rcases hd.reads i o j p t hi hj e ho hpj hdj hr with g | g
       · exact .inl g
       · exact .inr (.inr g)
   rcases hcase with g | g
   · have hji := g.lt hd
     have hSj := hSanc j g
     have v1 := h2.new j p t hj (by simpa using hji) hpj hdj
     have v2 := ht.new j p t hj hSj hpj hdj
     rw [v2, ← v1, hy]
   · have hSj : S j = false := by
       rcases g with g | g
       · rw [g]; exact hSi
       · cases hh : S j with
         | false => rfl
         | true => rw [hS.anc g hh] at hSi; cases hSi
     have hij : ¬ j < i := by
       rcases g with g | g
       · omega
       · have := g.lt hd; omega
     have v1 := h2.old t fun j' p' hj' hS' hp' hd' => by
       have := huniq j' p' hj' hp' hd'
       subst this
       simp at hS'; exact hij hS'
     have v2 := ht.old t fun j' p' hj' hS' hp' hd' => by
       have := huniq j' p' hj' hp' hd'
       subst this
       rw [hS'] at hSj; cases hSj
     rw [v2, ← v1, hy]
 · have v1 := h2.old t fun j' p' hj' _ hp' hd' => hw ⟨j', p', hj', hp', hd'⟩
   have v2 := ht.old t fun j' p' hj' _ hp' hd' => hw ⟨j', p', hj', hp', hd'⟩
   rw [v2, ← v1, hy]
/-- The objects, before or behind the call. -/
def obC (base ob1 : List Ob) (b : Bool) : List Ob := if b then ob1 else base
/-- Any order will do. -/
theorem any_orderC {ro : Option Nat} {md : Region.Mode} (hX : X.Ok) (hG : G.gl = X.gl) (hm : G.m0 = X.m0) (hd : DrawOk all m) (hp : PlanC X all m c base ob1 s vals) {Q : Exit → Act → World → Prop}
   (htail : ∀ E F a w, Rel G E F ⟨(s m).tm, ob1⟩ a w → wpLs ro X.P all Q (all.toList.drop m) a w) : ∀ (fuel : Nat) (listed : Array Bool) (E : Env) (F : Nat → Prop) (a : Act) (w : World) (tm : List AV), listed.size = all.size →
     Down all (fun j => listed.getD j false) → (∀ j, m ≤ j → listed.getD j false = false) → cnt (fun j => listed.getD j false) all.size ≤ fuel → AtS all m base vals (fun j => listed.getD j false) tm → Rel G E F ⟨tm, obC base.ob ob1 (listed.getD c false)⟩ a w →
     wpAnyIn (Fw ro) 0 X.P md all Q fuel listed a w := by
 have hfull : ∀ (fuel : Nat) (listed : Array Bool) (E : Env) (F : Nat → Prop) (a : Act) (w : World) (tm : List AV), listed.size = all.size → (∀ j, m ≤ j → listed.getD j false = false) → (∀ j, j < m → listed.getD j false = true) →
     all.size = m + fuel → AtS all m base vals (fun j => listed.getD j false) tm → Rel G E F ⟨tm, obC base.ob ob1 (listed.getD c false)⟩ a w → wpAnyIn (Fw ro) 0 X.P md all Q fuel listed a w := by
   intro fuel listed E F a w tm hsz hge hlt hf ht hr
   have hl : ∀ j, j < all.size → listed.getD j false = Nat.blt j m := fun j hj => by
     by_cases e : j < m
     · rw [hlt j e]; simpa using e
     · rw [hge j (by omega)]
       cases hb : Nat.blt j m with
       | false => rfl
       | true => simp at hb; omega
   have hst : (⟨tm, obC base.ob ob1 (listed.getD c false)⟩ : St) = ⟨(s m).tm, ob1⟩ := by
     obtain ⟨h1, h2⟩ := hp.at hd m (Nat.le_refl _)
     have htm : tm = (s m).tm := by
       apply List.ext_getElem?
       intro t
       by_cases hw : ∃ j p, j < m ∧ all[j]? = some p ∧ p.dst = some t
       · obtain ⟨j, p, hj, hpj, hdj⟩ := hw
         rw [ht.new j p t hj (hlt j hj) hpj hdj, h2.new j p t hj (by simpa using hj) hpj hdj]
       · rw [ht.old t fun j p hj _ hpj hdj => hw ⟨j, p, hj, hpj, hdj⟩, h2.old t fun j p hj _ hpj hdj => hw ⟨j, p, hj, hpj, hdj⟩]
     rw [htm, hlt c hp.cm]; rfl
   rw [hst] at hr
   exact tail_any hd fuel m listed a w hsz (Nat.le_refl _) hf.symm hl (htail E F a w hr)
 intro fuel
 induction fuel with
 | zero =>
   intro listed E F a w tm hsz hdn hge hc ht hr
   have hall := cnt_zero (Nat.le_zero.mp hc)
   have hmm : m = all.size := by
     have := hd.le
     by_cases e : m = all.size
     · exact e
     · have this : listed.getD m false = true := hall m (by omega)
       rw [hge m (Nat.le_refl _)] at this; cases this
   exact hfull 0 listed E F a w tm hsz hge (fun j hj => hall j (by omega)) (by omega) ht hr
 | succ fuel ih =>
   intro listed E F a w tm hsz hdn hge hc ht hr
   by_cases hmall : ∀ j, j < m → listed.getD j false = true
   · -- all of the pure part has run
     have hcount : all.size ≤ m + (fuel + 1) := by
       have : ∀ n, n ≤ all.size → (∀ j, j < m → listed.getD j false = true) → n ≤ m + cnt (fun j => listed.getD j false) n := by
         intro n
         induction n with
         | zero => intro _ _; omega
         | succ n ihn =>
           intro hn hj
           have := ihn (by omega) hj
           simp only [cnt]
           by_cases e : n < m
           · omega
           · have e1 := hge n (by omega)
             simp only [e1, Bool.false_eq_true, if_false]; omega
       have := this all.size (Nat.le_refl _) hmall
       omega
     -- fewer steps are left than there is fuel
     have hfuel : ∀ f g : Nat, f ≤ g → ∀ (listed : Array Bool) (a : Act) (w : World), wpAnyIn (Fw ro) 0 X.P md all Q f listed a w → wpAnyIn (Fw ro) 0 X.P md all Q g listed a w := by
       intro f
       induction f with
       | zero =>
         intro g _ listed a w h
         cases g with
         | zero => exact h
         | succ g => exact ⟨fun _ => h.2, fun i hi => by rw [h.1] at hi; cases hi⟩
       | succ f ihf =>
         intro g hg listed a w h
         cases g with
         | zero => omega
         | succ g => exact ⟨h.1, fun i hi => wpOpIn_mono (fun a w hh => ihf g (by omega) _ a w hh) (h.2 i hi)⟩
     have hle := hd.le
     exact hfuel (all.size - m) (fuel + 1) (by omega) listed a w (hfull _ listed E F a w tm hsz hge hmall (by omega) ht hr)
   · -- some of it has not
     have hex : ∃ j, j < m ∧ listed.getD j false = false := by
       refine Classical.byContradiction fun hne => hmall fun j hj => ?_
       cases hh : listed.getD j false with
       | true => rfl
       | false => exact absurd ⟨j, hj, hh⟩ hne
     have hle := hd.le
     refine ⟨fun hnil => ?_, fun i hi => ?_⟩
     · exfalso
       obtain ⟨rk, hrk⟩ := hd.rk md
       have : ∀ n j, rk j < n → j < m → listed.getD j false = false → False := by
         intro n
         induction n with
         | zero => intro j hj; omega
         | succ n ihn =>
           intro j hjn hj hf
           have ho : all[j]? = some all[j] := by simp [show j < all.size by omega]
           by_cases hk : ∀ e ∈ (all[j]).after.toList, Region.binds md e = true → listed.getD e.on false = true
           · have := ready_if (md := md) hsz ho hf hk
             rw [hnil] at this; cases this
           · have : ∃ e ∈ (all[j]).after.toList, Region.binds md e = true ∧ listed.getD e.on false = false := by
               refine Classical.byContradiction fun hne => hk fun k hk' hb => ?_
               cases hh : listed.getD k.on false with
               | true => rfl
               | false => exact absurd ⟨k, hk', hb, hh⟩ hne
             obtain ⟨k, hk1, hkb, hk2⟩ := this
             have := hrk j _ k hj ho hk1 hkb
             exact ihn k.on (by omega) this.1 hk2
       obtain ⟨j, h1, h2⟩ := hex
       exact this (rk j + 1) j (by omega) h1 h2
     · obtain ⟨o, ho, hnl, hedges⟩ := ready_of hsz hi
       have his := (Array.getElem?_eq_some_iff.mp ho).1
       have him : i < m := by
         refine Nat.lt_of_not_le fun hmi => ?_
         obtain ⟨j, hj1, hj2⟩ := hex
         have ha := hd.tail i j hmi his (by omega)
         have : listed.getD j false = true := by
           cases ha with
           | edge ho' hk => rw [ho] at ho'; injection ho' with ho'; subst ho'; exact hedges _ hk
           | more ho' hk ha => rw [ho] at ho'; injection ho' with ho'; subst ho'; exact hdn.anc ha (hedges _ hk)
         rw [this] at hj2; cases hj2
       obtain ⟨o', ho', hput, hcall, hpure⟩ := hp.step i him
       rw [ho] at ho'; injection ho' with ho'; subst ho'
       have hmk := AtS.maskC hd hp hdn ht him hnl ho hedges
       have hml : (keepTm (o.looksAt all) 0 (s i).tm).length = tm.length := by
         rw [keepTm_length, ((hp.at hd i (by omega)).2).len, ht.len]
       obtain ⟨e1, e2⟩ := St.putB_spec hput
       have hsl : (s i).tm.length = tm.length := by rw [((hp.at hd i (by omega)).2).len, ht.len]
       have hS' : ∀ q, (listed.setIfInBounds i true).getD q false = if q = i then true else listed.getD q false := fun q => getD_set (by omega)
       -- behind it
       have hgo : ∀ E' F' w' u, Rel G E' F' ⟨tm, obC base.ob ob1 ((listed.setIfInBounds i true).getD c false)⟩ a w' → TR E' (St.inf ⟨tm, obC base.ob ob1 ((listed.setIfInBounds i true).getD c false)⟩) F' w' (vals i) u → wpAnyIn (Fw ro) 0 X.P md all Q fuel (listed.setIfInBounds i true) (a.put o.dst u) w' := by
         intro E' F' w' u hr' hT
         have hput' := hr'.put (d := o.dst) (x := vals i) (v := u) (fun t ht' => Nat.lt_of_lt_of_le (e2 t ht') (Nat.le_of_eq hsl)) fun _ => hT
         refine ih (listed.setIfInBounds i true) E' F' _ w' (St.put ⟨tm, obC base.ob ob1 ((listed.setIfInBounds i true).getD c false)⟩ o.dst (vals i)).tm (by simpa using hsz) ?_ ?_ ?_ ?_ ?_
         · intro j p k hj hpj hk
           simp only [hS'] at hj ⊢
           by_cases e : k = i
           · simp [e]
           · simp only [e, if_false]
             by_cases ej : j = i
             · subst ej
               rw [ho] at hpj; injection hpj with hpj; subst hpj
               exact hedges k hk
             · simp only [ej, if_false] at hj
               exact hdn j p k hj hpj hk
         · intro j hj
           rw [hS', if_neg (by omega)]
           exact hge j hj
         · have := cnt_set (f := fun j => listed.getD j false) (g := fun j => (listed.setIfInBounds i true).getD j false) (i := i) his hnl (by simp [hS']) (fun j hj => by simp [hS', hj])
           omega
         · cases hdst : o.dst with
           | none =>
             refine ⟨ht.len, fun j p t hj hSj hpj hdj => ?_, fun t htt => ht.old t fun j p hj hSj => htt j p hj (by simp only [hS']; split <;> simp_all)⟩
             have hne : j ≠ i := fun e => by subst e; rw [ho] at hpj; injection hpj with hpj; subst hpj; rw [hdst] at hdj; cases hdj
             simp only [hS', hne, if_false] at hSj
             exact ht.new j p t hj hSj hpj hdj
           | some d =>
             have hlt := e2 d hdst
             refine ⟨by simp [St.put, ht.len], fun j p t hj hSj hpj hdj => ?_, fun t htt => ?_⟩
             · simp only [St.put]
               by_cases hji : j = i
               · subst hji
                 rw [ho] at hpj; injection hpj with hpj; subst hpj
                 rw [hdst] at hdj; injection hdj with hdj; subst hdj
                 have : d < tm.length := Nat.lt_of_lt_of_le hlt (Nat.le_of_eq hsl)
                 simp [this]
               · have hne : d ≠ t := fun e => hd.dsts i o j p t him hj (fun e => hji e.symm) ho hpj hdj (by rw [hdst, e])
                 rw [List.getElem?_set_ne hne]
                 simp only [hS', hji, if_false] at hSj
                 exact ht.new j p t hj hSj hpj hdj
             · simp only [St.put]
               have hne : d ≠ t := fun e => htt i o him (by simp [hS']) ho (by rw [hdst, e])
               rw [List.getElem?_set_ne hne]
               exact ht.old t fun j p hj hSj => htt j p hj (by simp only [hS']; split <;> simp_all)
         · have : (⟨(St.put ⟨tm, obC base.ob ob1 ((listed.setIfInBounds i true).getD c false)⟩ o.dst (vals i)).tm, obC base.ob ob1 ((listed.setIfInBounds i true).getD c false)⟩ : St) = St.put ⟨tm, obC base.ob ob1 ((listed.setIfInBounds i true).getD c false)⟩ o.dst (vals i) := by
             cases o.dst <;> rfl
           rw [this]; exact hput'
       unfold wpOpIn
       simp only [ho]
       by_cases hic : i = c
       · subst hic
         rw [hnl] at hr
         have hr0 : Rel G E F ⟨tm, base.ob⟩ a w := hr
         have hob : (maskO all o (s i)).ob = base.ob := (hp.at hd i (by omega)).1
         have hσ : Rel G E F (maskO all o (s i)) a w := hr0.maskAs hob hml hmk
         rcases hcall rfl with ⟨hg, p, hc, hpp⟩ | ⟨hg, hv, he⟩
         rotate_left
         · rw [if_neg (by rw [guardOf_wanted hσ hg]; simp)]
           refine ⟨fun _ _ => trivial, hgo E F w undef ?_ (by rw [hv]; simp only [TR]; exact ⟨[], rfl, by simp only [VRs]⟩)⟩
           rw [he, show ∀ b, obC base.ob base.ob b = base.ob from fun b => by cases b <;> rfl]
           exact hr0
         rw [if_pos (guardOf_wanted hσ hg)]
         have hu : okL X base.ob tm = true := okL_of fun t x hx => by
           by_cases hw : ∃ j p, j < m ∧ listed.getD j false = true ∧ all[j]? = some p ∧ p.dst = some t
           · obtain ⟨j, q, hj, hSj, hpj, hdj⟩ := hw
             rw [ht.new j q t hj hSj hpj hdj] at hx
             injection hx with hx; subst hx
             have hne : j ≠ i := fun e => by subst e; rw [hnl] at hSj; cases hSj
             obtain ⟨_, _, _, _, hpu⟩ := hp.step j hj
             refine ((hpu hne).1 fun ha => ?_).2
             have := hdn.anc ha hSj
             rw [hnl] at this; cases this
           · rw [ht.old t fun j p hj hSj hpj hdj => hw ⟨j, p, hj, hSj, hpj, hdj⟩] at hx
             exact okL_get hp.tm hx
         have hcc : (listed.setIfInBounds i true).getD i false = true := by rw [hS', if_pos rfl]
         rw [hcc] at hgo
         by_cases hst : ∃ T x y, o.op = .store T x y
         · obtain ⟨T, x, y, hop⟩ := hst
           simp only [callC, hop] at hc
           split at hc <;> try (cases hc; done)
           rename_i q x1 p1 hd0 he
           injection hc with hc; injection hc with c1 c2; injection c2 with c2 c3
           have he' := effS_mono (st := ⟨tm, base.ob⟩) he hmk (by rw [hob])
           rw [← hG] at he'
           obtain ⟨w2, g1, g2⟩ := run_effS hX.toOk hr0 he'
           refine wpIn_of_run g1 (fun d h => nomatch h) ?_
           have hset : (St.setO ⟨tm, base.ob⟩ q x1) = ⟨tm, ob1⟩ := by
             rw [← c1]
             show St.mk tm (setOb base.ob q x1) = St.mk tm (setOb (maskO all o (s i)).ob q x1)
             rw [hob]
           rw [hset] at g2
           exact hgo E F w2 undef g2 (by rw [← c2]; trivial)
         have hA := callC_callA (st := ⟨tm, base.ob⟩) hob hmk hu (fun T x y h => hst ⟨T, x, y, h⟩) hc
         exact (run_callA hX hG hm hr0 hA hpp fun E' F' w' u hr' hT => hgo E' F' w' u hr' hT)
       · have hcc : (listed.setIfInBounds i true).getD c false = listed.getD c false := by rw [hS', if_neg (fun e => hic e.symm)]
         rw [hcc] at hgo
         have hok : PureOk X all o (s i).tm (obC base.ob ob1 (listed.getD c false)) (vals i) := by
           cases hlc : listed.getD c false with
           | false =>
             refine ((hpure hic).1 fun ha => ?_).1
             have : listed.getD c false = true := by
               cases ha with
               | edge ho' hk => rw [ho] at ho'; injection ho' with ho'; subst ho'; exact hedges _ hk
               | more ho' hk ha => rw [ho] at ho'; injection ho' with ho'; subst ho'; exact hdn.anc ha (hedges _ hk)
             rw [this] at hlc; cases hlc
           | true =>
             refine (hpure hic).2 fun ha => ?_
             have := hdn.anc ha hlc
             rw [hnl] at this; cases this
         have hσ : Rel G E F ⟨keepTm (o.looksAt all) 0 (s i).tm, obC base.ob ob1 (listed.getD c false)⟩ a w := hr.maskAs rfl hml hmk
         rcases hok with ⟨hg, hv⟩ | ⟨hg, v, p, hv, hpp, himp⟩
         · rw [if_neg (by rw [guardOf_wanted hσ hg]; simp)]
           exact ⟨fun _ _ => trivial, hgo E F w undef hr (by rw [hv]; simp only [TR]; exact ⟨[], rfl, by simp only [VRs]⟩)⟩
         · rw [if_pos (guardOf_wanted hσ hg)]
           exact (run_effH hX hG hr hσ rfl hv hpp fun E' F' w' u hr' hT => hgo E' F' w' u hr' (himp _ _ _ _ _ hT))
theorem region_anyC {ro : Option Nat} (hX : X.Ok) (hG : G.gl = X.gl) (hm : G.m0 = X.m0) {id : Nat} (hd : DrawOk all m) (hp : PlanC X all m c base ob1 s vals) {Q : Exit → Act → World → Prop}
   (htail : ∀ E F a w, Rel G E F ⟨(s m).tm, ob1⟩ a w → wpLs ro X.P all Q (all.toList.drop m) a w) (hr : Rel G E F base a w) : (Code.region id all true).wpIn (Fw ro) 0 X.P Q a w := by
 have hgrow : w.grownBy { w with drawn := w.drawn + 1 } none := ⟨rfl, rfl, rfl, Nat.le_refl _, fun _ _ _ => rfl⟩
 have hr' := hr.grown hgrow (fun _ => False) fun b hb => hb.elim
 have key : ∀ md, wpAnyIn (Fw ro) 0 X.P md all Q all.size (Array.replicate all.size false) a { w with drawn := w.drawn + 1 } := fun md => by
   have h0 : ∀ j, (Array.replicate all.size false).getD j false = false := fun j => by
     simp only [Array.getD_eq_getD_getElem?, Array.getElem?_replicate]
     split <;> rfl
   refine any_orderC hX hG hm hd hp htail all.size _ E _ a _ base.tm (by simp) (fun j o k hj => ?_) (fun j _ => h0 j) ?_ ⟨rfl, fun j o t _ hj => ?_, fun t _ => rfl⟩ (by rw [h0]; exact hr')
   · simp only [h0] at hj; cases hj
   · have : ∀ n, cnt (fun j => (Array.replicate all.size false).getD j false) n ≤ n := by
       intro n
       induction n with
       | zero => exact Nat.le_refl _
       | succ n ih => simp only [cnt]; split <;> omega
     exact this _
   · simp only [h0] at hj; cases hj
 refine wpIn_region_draw fun t => ?_
 unfold Region.schedule
 split
 · exact wpAnyIn_sound all.size t _ a _ (key .any)
 · exact wpAnyIn_sound all.size _ _ a _ (key _)
end
end Go.Am

/- The abstract machine, part 23r: loops over functions. -/
namespace Go.Am
open Go
def opT : Operand → List Nat
 | .tmp t => [t]
 | _ => []
def readsOps : List Oper → List Nat
 | [] => []
 | o :: l => o.looksAt #[] ++ readsOps l
/-- The temporaries that code reads. -/
def readsC : Code → List Nat
 | .region _ ops _ => readsOps ops.toList
 | .seq a b => readsC a ++ readsC b
 | .cond c a b => opT c ++ (readsC a ++ readsC b)
 | .block _ b => readsC b
 | .loop b => readsC b
 | .scope b => readsC b
 | .rangeFunc g _ a b => opT g ++ (readsC a ++ readsC b)
 | _ => []
def keepIx (tm : List AV) : List Nat → List Nat → List Nat
 | [], acc => acc
 | t :: l, acc => (match idx t acc, tm[t]? with
   | none, some v => (match noTD [v] with
     | true => keepIx tm l (acc ++ [t])
     | false => keepIx tm l acc)
   | _, _ => keepIx tm l acc)
def pickT (tm : List AV) : List Nat → List AV
 | [] => []
 | t :: l => tm.getD t .dead :: pickT tm l
/-- How code may jump out: none: it returns. -/
def jumpsC (own : List Nat) : Code → List (Option Nat)
 | .seq a b => jumpsC own a ++ jumpsC own b
 | .cond _ a b => jumpsC own a ++ jumpsC own b
 | .block id b => jumpsC (id :: own) b
 | .loop b => jumpsC own b
 | .scope b => jumpsC own b
 | .rangeFunc _ _ a b => jumpsC own a ++ jumpsC own b
 | .exit id => (match idx id own with
   | some _ => []
   | none => [some id])
 | .ret => [none]
 | _ => []
def jmp : Option Nat → Code
 | some id => .exit id
 | none => .ret
def hasJ (x : Option Nat) : List (Option Nat) → Bool
 | [] => false
 | y :: l => (match x, y with
   | none, none => true
   | some a, some b => Nat.beq a b
   | _, _ => false) || hasJ x l
def dedJ : List (Option Nat) → List (Option Nat) → List (Option Nat)
 | [], acc => acc
 | x :: l, acc => (match hasJ x acc with
   | true => dedJ l acc
   | false => dedJ l (acc ++ [x]))
def inJ (j : Option Code) : List (Option Nat) → Prop
 | [] => j = none
 | x :: l => j = some (jmp x) ∨ inJ j l
def allJ (f : Option Nat → Prop) : List (Option Nat) → Prop
 | [] => True
 | x :: l => f x ∧ allJ f l
theorem inJ_cases {j : Option Code} : ∀ {l : List (Option Nat)} {f : Option Nat → Prop}, inJ j l → allJ f l → j = none ∨ ∃ x, j = some (jmp x) ∧ f x
 | [], _, h, _ => .inl h
 | x :: l, f, h, hf => by
   rcases h with h | h
   · exact .inr ⟨x, h, hf.1⟩
   · exact inJ_cases h hf.2
def rcOf (st : St) (ps : Array Tmp) (asg body : Code) : RcC := ⟨keepIx st.tm (readsC asg ++ readsC body) [], st.tm.length, ps, asg, body⟩
def recOb (st : St) (ps : Array Tmp) (asg body : Code) : Ob := .lp (rcOf st ps asg body) .ready none (.clo 0 (pickT st.tm (keepIx st.tm (readsC asg ++ readsC body) [])) [])
def rndOk (X : Cy) (st : St) : Bool :=
 match X.ro with
 | none => true
 | some q => (match st.ob[q]? with
   | some (.lp _ _ _ _) => Nat.blt q X.m0
   | _ => false)
/-- The state in which the function is called. -/
def rfSt (st : St) (ps : Array Tmp) (asg body : Code) : St := ⟨st.tm ++ [.yld st.ob.length], setOb st.ob st.ob.length (recOb st ps asg body)⟩
/-- A loop over a function: the objects behind it, what it asks, and the jump that is taken then. -/
def rfA (X : Cy) (st : St) (g : Operand) (ps : Array Tmp) (asg body : Code) : Option (St × Prop × Option Code) :=
 match evalA X.gl st g, rndOk X st, st.fresh st.ob.length with
 | some (.clo f l m), true, true => (match callWith X (rfSt st ps asg body) (X.Γat none f) (l ++ (.yld st.ob.length :: m)) (reach (rfSt st ps asg body) 60 (AV.idsL (l ++ (.yld st.ob.length :: m))) []) with
   | some (st2, _, p) => (match st2.ob[st.ob.length]? with
     | some (.lp _ s j _) => some (⟨st.tm, setOb st2.ob st.ob.length .gone⟩, p ∧ s ≠ .busy, j)
     | _ => none)
   | none => none)
 | _, _, _ => none
theorem callWith_tm {X : Cy} {st st' : St} {γ : List AV → List Ob → Option (Prop × Bool × List AV × List Ob)} {xs : List AV} {ι : List Nat} {v : AV} {p : Prop} (h : callWith X st γ xs ι = some (st', v, p)) : st'.tm = st.tm := by
 unfold callWith at h
 split at h <;> try (cases h; done)
 split at h <;> try (cases h; done)
 split at h <;> try (cases h; done)
 rename_i s hs
 injection h with h; injection h with h1 h2
 subst h1
 unfold leaveA at hs
 split at hs <;> try (cases hs; done)
 split at hs <;> try (cases hs; done)
 split at hs <;> try (cases hs; done)
 injection hs with hs
 subst hs
 rfl
theorem noTD_append : ∀ {l m : List AV}, noTD l = true → noTD m = true → noTD (l ++ m) = true
 | [], m, _, h => h
 | x :: l, m, h, h' => by
   cases x <;> simp_all [noTD, noTD_append]
theorem pickT_append {tm : List AV} : ∀ {l m : List Nat}, pickT tm (l ++ m) = pickT tm l ++ pickT tm m
 | [], m => rfl
 | t :: l, m => by simp [pickT, pickT_append (l := l)]
theorem keepIx_noTD {tm : List AV} : ∀ {l acc : List Nat}, noTD (pickT tm acc) = true → noTD (pickT tm (keepIx tm l acc)) = true
 | [], acc, h => h
 | t :: l, acc, h => by
   unfold keepIx
   split
   · rename_i v _ hv
     split
     · rename_i hn
       refine keepIx_noTD ?_
       rw [pickT_append]
       refine noTD_append h ?_
       simp only [pickT, List.getD_eq_getElem?_getD, hv, Option.getD_some]
       exact hn
     · exact keepIx_noTD h
   · exact keepIx_noTD h
theorem pickT_length {tm : List AV} : ∀ {l : List Nat}, (pickT tm l).length = l.length
 | [] => rfl
 | t :: l => by simp [pickT, pickT_length (l := l)]
theorem pickT_get {tm : List AV} : ∀ {l : List Nat} {i : Nat} {x : AV}, (pickT tm l)[i]? = some x → ∃ t, l[i]? = some t ∧ x = tm.getD t .dead
 | [], i, x, h => by simp [pickT] at h
 | t :: l, 0, x, h => by simp [pickT] at h; exact ⟨t, rfl, by simp [h]⟩
 | t :: l, i + 1, x, h => by
   simp only [pickT, List.getElem?_cons_succ] at h
   simpa using pickT_get h
section
variable {X : Cy} {G : En} {E : Env} {F : Nat → Prop} {st : St} {a : Act} {w : World}
/-- An outermost loop over a function: the block for deferred calls, and its mark. -/
theorem Rel.mark (h : Rel G E F st a w) : Rel G E (fun b => F b ∨ b = w.heap.size) st { a with defers := [{ target := .collected w.heap.size, args := #[] }] ++ a.defers } (w.alloc (.deferred (some []))) := by
 have h1 := h.grown (World.grownBy_alloc w (.deferred (some [])) none) (fun b => b = w.heap.size) (fun b hb => by subst hb; simp)
 refine { h1 with defers := ?_, size := h1.size, tms := h1.tms, obs := h1.obs, apart := h1.apart, inj := h1.inj, own := h1.own, stay := h1.stay, live0 := h1.live0 }
 refine ⟨⟨w.heap.size, rfl, h.grow, .inr rfl, World.alloc_heap_new w _, fun d' hd' he => ?_⟩, h1.defers⟩
 have : ∀ {l : List Deferred}, MarksOk G.w0.heap.size F w l → ∀ d' ∈ l, d'.target ≠ .collected w.heap.size := by
   intro l
   induction l with
   | nil => intro _ d' hd'; simp at hd'
   | cons d l ih =>
     intro hm d' hd' he
     obtain ⟨⟨D, g1, g2, g3, g4, g5⟩, g6⟩ := hm
     rcases List.mem_cons.mp hd' with e | e
     · subst e
       rw [g1] at he
       injection he with he
       have := h.frz D g3
       omega
     · exact ih g6 d' e he
 exact this h.defers d' hd' he
/-- An object that is not lent is left alone. -/
theorem Rel.dropOb (h : Rel G E F st a w) {n : Nat} (hn : G.m0 ≤ n) : Rel G E F (st.setO n .gone) a w := by
 have hI : ∀ q i, (st.setO n .gone).inf q = some i → st.inf q = some i := fun q i hq => by
   rw [St.inf_setO] at hq
   split at hq
   · cases hq
   · exact hq
 have hA : ∀ q v, Ag E E st.inf (st.setO n .gone).inf q v := fun q v => by
   cases v with
   | none => simp [Ag]
   | some v => exact fun i hi _ => ⟨hI q i hi, rfl, rfl⟩
 have hF : ∀ b, F b → F b ∧ w.heap[b]? = w.heap[b]? := fun b hb => ⟨hb, rfl⟩
 have hlive : ∀ q, (st.setO n .gone).live q → st.live q := fun q hq => by
   obtain ⟨i, hi⟩ := Option.isSome_iff_exists.mp hq
   simp [St.live, hI q i hi]
 refine { h with tms := fun i y hy => (h.tms i y hy).mono hF fun q v _ => hA q v, obs := ?_, apart := fun q hq => h.apart q (hlive q hq), inj := fun q q' hq hq' => h.inj q q' (hlive q hq) (hlive q' hq'), own := fun q hq => h.own q (hlive q hq), stay := fun q i hq hi => h.stay q i hq (hI q i hi), live0 := ?_ }
 · intro q y hy
   simp only [St.setO, setOb_get] at hy
   split at hy
   · injection hy with hy; subst hy; trivial
   · have hold : y = .gone ∨ st.ob[q]? = some y := by
       split at hy
       · injection hy with hy
         cases hl : st.ob[q]? with
         | none => left; rw [← hy]; simp [List.getD_eq_getElem?_getD, hl]
         | some z => right; rw [← hy]; simp [List.getD_eq_getElem?_getD, hl]
       · exact .inr hy
     rcases hold with rfl | hold
     · trivial
     · exact (h.obs q y hold).mono hF (fun r v _ => hA r v) fun _ => ⟨rfl, rfl, rfl⟩
 · intro q hq
   have := h.live0 q hq
   have hqn : q ≠ n := by omega
   simpa [St.live, St.inf_setO, hqn] using this
/-- The record is laid. -/
theorem Rel.record (h : Rel G E F st a w) (hf : st.fresh st.ob.length = true) (ps : Array Tmp) (asg body : Code) (fn : FuncId) (D : Nat) :
   Rel G (E.set st.ob.length w.heap.size 0) F (st.setO st.ob.length (recOb st ps asg body)) a
     (w.alloc (.loop { state := .ready, pending := none, fn, tmps := a.tmps, params := ps, assign := asg, body, defers := D })) := by
 obtain ⟨f1, f2, f3⟩ := St.fresh_spec hf
 refine h.newOb hf _ _ _ ?_
 generalize hix : keepIx st.tm (readsC asg ++ readsC body) [] = ixs
 have hnt : noTD (pickT st.tm ixs) = true := by rw [← hix]; exact keepIx_noTD rfl
 let vs : List Value := ixs.map fun t => a.tmps.getD t undef
 have hvs : VRs E st.inf F w (pickT st.tm ixs) vs := by
   refine VRs.of_get (by simp [vs, pickT_length]) hnt fun i x hx => ?_
   obtain ⟨t, ht, rfl⟩ := pickT_get hx
   have hv : vs.getD i undef = a.tmps.getD t undef := by
     simp [vs, List.getD_eq_getElem?_getD, ht]
   rw [hv]
   cases htm : st.tm[t]? with
   | none => simp only [List.getD_eq_getElem?_getD, htm, Option.getD_none]; trivial
   | some y =>
     simp only [List.getD_eq_getElem?_getD, htm, Option.getD_some]
     exact h.tms t y htm
 have hcr : CR E st.inf F w (.clo 0 (pickT st.tm ixs) []) [.func (.func 0) (List.toArray vs) #[]] := by
   simp only [CR]
   exact ⟨vs, [], rfl, hvs, by simp only [VRs]⟩
 have hnm : ∀ q v, (AV.clo 0 (pickT st.tm ixs) []).has q v = true → q ≠ st.ob.length := by
   intro q v hq e
   have hq := AV.names_of_has hq
   subst e
   simp only [AV.names, AV.namesL, Bool.or_false] at hq
   have : ∀ {l : List Nat}, AV.namesL st.ob.length (pickT st.tm l) = true → False := by
     intro l
     induction l with
     | nil => intro h; simp [pickT, AV.namesL] at h
     | cons t l ih =>
       intro h
       simp only [pickT, AV.namesL, Bool.or_eq_true] at h
       rcases h with h | h
       · cases htm : st.tm[t]? with
         | none => simp [List.getD_eq_getElem?_getD, htm, AV.names] at h
         | some y => rw [List.getD_eq_getElem?_getD, htm, Option.getD_some, f2 t y htm] at h; cases h
       · exact ih h
   exact this hq
 simp only [recOb, rcOf, hix]
 refine ⟨{ state := .ready, pending := none, fn, tmps := a.tmps, params := ps, assign := asg, body, defers := D }, vs, ?_, ⟨⟨rfl, rfl, rfl, h.size⟩, rfl, rfl⟩, ⟨by simp [vs], fun i t ht => by simp [vs, List.getD_eq_getElem?_getD, ht]⟩, ?_⟩
 · rw [show (E.set st.ob.length w.heap.size 0).β st.ob.length = w.heap.size by simp [Env.set]]
   exact World.alloc_heap_new w _
 · refine CR.mono (fun b hb => ⟨hb, Go.RowKit.Below.heap_alloc w _ b (h.frz b hb)⟩) (fun q v hq => ?_) hcr
   have hqn := hnm q v hq
   cases v with
   | none => simp [Ag, Env.set, hqn]
   | some v => exact fun i hi _ => ⟨by rw [St.inf_setO] at hi; simpa [hqn] using hi, by simp [Env.set, hqn], by simp [Env.set, hqn]⟩
theorem Rel.push (h : Rel G E F st a w) {x : AV} {v : Value} (hx : TR E st.inf F w x v) : Rel G E F ⟨st.tm ++ [x], st.ob⟩ { a with tmps := a.tmps.push v } w := by
 refine { h with size := by simp [h.size], tms := ?_, obs := h.obs, apart := h.apart, inj := h.inj, own := h.own, stay := h.stay, live0 := h.live0 }
 intro i y hy
 show TR E st.inf F w y _
 by_cases hi : i < st.tm.length
 · have hi' : i < a.tmps.size := by rw [h.size]; exact hi
   have hy : st.tm[i]? = some y := by simpa [List.getElem?_append_left hi] using hy
   have := h.tms i y hy
   simpa [Array.getD_eq_getD_getElem?, Array.getElem?_push_lt hi', hi'] using this
 · simp only at hy
   rw [List.getElem?_append_right (by omega)] at hy
   have hi2 : i = st.tm.length := by
     have := (List.getElem?_eq_some_iff.mp hy).1
     simp at this; omega
   subst hi2
   simp at hy; subst hy
   simpa [Array.getD_eq_getD_getElem?, ← h.size] using hx
theorem Rel.pop {tm : List AV} {ob : List Ob} {x : AV} {v : Value} (h : Rel G E F ⟨tm ++ [x], ob⟩ { a with tmps := a.tmps.push v } w) : Rel G E F ⟨tm, ob⟩ a w := by
 have hsz : a.tmps.size = tm.length := by simpa using h.size
 refine { h with size := hsz, tms := ?_, obs := h.obs, apart := h.apart, inj := h.inj, own := h.own, stay := h.stay, live0 := h.live0 }
 intro i y hy
 have hi : i < tm.length := (List.getElem?_eq_some_iff.mp hy).1
 have hi' : i < a.tmps.size := by omega
 have := h.tms i y (by simpa [List.getElem?_append_left hi] using hy)
 show TR E (St.inf ⟨tm ++ [x], ob⟩) F w y _
 simpa [Array.getD_eq_getD_getElem?, Array.getElem?_push_lt hi', hi'] using this
theorem evalA_push {gl : Nat → Option ((t : Ty) × t.D)} {g : Operand} {x v : AV} {ob : List Ob} (h : evalA gl st g = some v) : evalA gl ⟨st.tm ++ [x], ob⟩ g = some v := by
 cases g with
 | tmp t =>
   simp only [evalA] at h ⊢
   split at h <;> try (cases h; done)
   rename_i y hy
   have : t < st.tm.length := (List.getElem?_eq_some_iff.mp hy).1
   rw [List.getElem?_append_left this, hy]
   exact h
 | _ => exact h
/-- What is to be shown behind a loop over a function. -/
def afterJ (F : Fence) (P : Program) (Q : Exit → Act → World → Prop) (a : Act) (w : World) : Option Code → Prop
 | none => Q .normal a w
 | some c => c.wpIn F 0 P Q a w
theorem run_rfA {ro : Option Nat} (hX : X.Ok) (hG : G.gl = X.gl) (hm : G.m0 = X.m0) (hro : ro = X.ro.map G.E0.β) (h : Rel G E F st a w) {g : Operand} {ps : Array Tmp} {asg body : Code} {st' : St} {p : Prop} {j : Option Code}
   (he : rfA X st g ps asg body = some (st', p, j)) (hp : p) {Q : Exit → Act → World → Prop}
   (hnext : ∀ E' F' a' w', Rel G E' F' st' a' w' → afterJ (Fw ro) X.P Q a' w' j) : (Code.rangeFunc g ps asg body).wpIn (Fw ro) 0 X.P Q a w := by
 unfold rfA at he
 split at he <;> try (cases he; done)
 rename_i f l m hg hrnd hfr
 split at he <;> try (cases he; done)
 rename_i st2 v2 p2 hcall
 split at he <;> try (cases he; done)
 rename_i C s j2 c hob
 injection he with he; injection he with h1 h2; injection h2 with h2 h3
 subst h1 h2 h3
 obtain ⟨hp2, hs⟩ := hp
 rw [← hG] at hg
 have hlow : G.m0 ≤ st.ob.length := by
   refine Nat.le_of_not_lt fun hlt => ?_
   have := h.live0 _ hlt
   simp [St.live, St.inf] at this
 -- what follows on the record
 have key : ∀ (fn : FuncId) (D : Nat) (mark : List Deferred) (F1 : Nat → Prop) (w1 : World), Rel G E F1 st { a with defers := mark ++ a.defers } w1 →
     (Instr.enterLoop fn a.tmps ps asg body ro).run X.P w = .ok (w1.heap.size, mark) (w1.alloc (.loop { state := .ready, pending := none, fn, tmps := a.tmps, params := ps, assign := asg, body, defers := D })) →
     ∃ (l : Nat) (mark : List Deferred) (w₁ : World) (d : Deferred) (w₁' : World) (f : FuncId) (args : Array Value) (w₂ : World),
     (Instr.enterLoop fn a.tmps ps asg body (Fw ro).round).run X.P w = .ok (l, mark) w₁ ∧
     (resolve a.eval (rangeCall g l) 0).run X.P w₁ = .ok d w₁' ∧
     (∀ f', Target.leads X.P w₁' d.target d.args = some f' → (Fw ro).fn f') ∧
     (invoke d.target d.args).run X.P w₁' = .ok (.enter f args) w₂ ∧
     ((Fw ro).depth.isSome = true → 1 ≤ 0) ∧
     CallsIn (Fw ro) (0 - 1) X.P f args w₂ (rangePost (Fw ro) 0 X.P l Q { a with defers := mark ++ a.defers }) := by
   intro fn D mark F1 w1 hr1 hen
   have hr1' := hr1.record hfr ps asg body fn D
   have hy1 : TR (E.set st.ob.length w1.heap.size 0) (st.setO st.ob.length (recOb st ps asg body)).inf F1 (w1.alloc (.loop { state := .ready, pending := none, fn, tmps := a.tmps, params := ps, assign := asg, body, defers := D })) (.yld st.ob.length) (.func (.yield w1.heap.size) #[] #[]) := by
     refine ⟨?_, ?_⟩
     · simp [CR, Env.set, Value.cells]
     · simp [Shaped, AV.isAgg, Value.cells]
   have hr2 : Rel G _ _ (rfSt st ps asg body) _ _ := hr1'.push hy1
   have hg2 : evalA G.gl (rfSt st ps asg body) g = some (.clo f l m) := evalA_push hg
   have hg1 : evalA G.gl (st.setO st.ob.length (recOb st ps asg body)) g = some (.clo f l m) := by
     rw [← hg]; cases g <;> rfl
   have hf2 := one_cell (hr1'.eval hg1) rfl
   simp only [CR] at hf2
   obtain ⟨vs, us, e1, e2, e3⟩ := hf2
   injection e1 with e1 _
   have e1 : a.eval g = .func (.func f) (List.toArray vs) (List.toArray us) := e1
   have hyl := e2.append (show VRs _ _ _ _ (.yld st.ob.length :: m) (.func (.yield w1.heap.size) #[] #[] :: us) by
     simp only [VRs]
     exact ⟨_, us, rfl, hy1.1, hy1.2, e3⟩)
   obtain ⟨k1, k2⟩ := run_callFn hX hG hm hr2 hyl hcall hp2
   refine ⟨w1.heap.size, mark, (w1.alloc (.loop { state := .ready, pending := none, fn, tmps := a.tmps, params := ps, assign := asg, body, defers := D })), { target := .fn (.func f) us.toArray, args := (vs ++ [Value.func (.yield w1.heap.size) #[] #[]]).toArray }, (w1.alloc (.loop { state := .ready, pending := none, fn, tmps := a.tmps, params := ps, assign := asg, body, defers := D })), f, (vs ++ (Value.func (.yield w1.heap.size) #[] #[] :: us)).toArray, (w1.alloc (.loop { state := .ready, pending := none, fn, tmps := a.tmps, params := ps, assign := asg, body, defers := D })), hen, ?_, fun _ _ => trivial, ?_, fun h => (nomatch h), ?_⟩
   · simp only [resolve, rangeCall, e1, Deferred.ofValue, Sem.run_bind, Sem.run_pure, Result.andThen_ok]
     simp [Act.eval]
     try rfl
   · simp only [invoke]
     have : ((vs ++ [Value.func (.yield w1.heap.size) #[] #[]]).toArray ++ us.toArray : Array Value) = (vs ++ (Value.func (.yield w1.heap.size) #[] #[] :: us)).toArray := by
       apply Array.ext'
       simp
     rw [this]
     exact run_callFunc_enters k1
   · refine callsIn_Fw.mpr (k2.mono ?_)
     rintro e w' ⟨u, E', F', rfl, g1, g2⟩
     have htm := callWith_tm hcall
     -- the record lies where it lay
     have hβ : E'.β st.ob.length = w1.heap.size := by
       have hy := g1.tms st.tm.length (.yld st.ob.length) (by rw [htm]; simp [rfSt])
       have hz : ({ a with tmps := a.tmps.push (Value.func (.yield w1.heap.size) #[] #[]), defers := mark ++ a.defers } : Act).tmps.getD st.tm.length undef = Value.func (.yield w1.heap.size) #[] #[] := by
         simp [Array.getD_eq_getD_getElem?, ← h.size]
       have hy := one_cell (show TR E' st2.inf F' w' (.yld st.ob.length) _ from hy) rfl
       simp only [CR] at hy
       injection hy with hy _
       have hy := hz.symm.trans hy
       injection hy with hy
       injection hy with hy
       exact hy.symm
     obtain ⟨r, vs', q1, ⟨q2, q3, q4⟩, q5, q6⟩ := g1.obs _ _ hob
     rw [hβ] at q1
     refine ⟨r.pending, _, run_endLoop q1 (by rw [q3]; exact hs), ?_⟩
     have hl : (Ob.lp C s j2 c).inf.isSome = true := rfl
     have hlv : st2.live st.ob.length := by simp [St.live, St.inf, hob, hl]
     have hsz : w1.heap.size < w'.heap.size := by
       have := (g1.apart st.ob.length hlv).2
       rw [hβ] at this; exact this
     have hF' : ∀ b, F' b → F' b ∧ (w'.putObj w1.heap.size (.loop { r with state := .exhausted })).heap[b]? = w'.heap[b]? := fun b hb => ⟨hb, World.putObj_heap_other fun e => (g1.apart st.ob.length hlv).1 (by rw [hβ, ← e]; exact hb)⟩
     have hr3 := (g1.updOb (n := st.ob.length) (y := .lp C .exhausted j2 c) (w' := w'.putObj w1.heap.size (.loop { r with state := .exhausted })) hob hl rfl rfl rfl rfl World.putObj_size (fun b hb => World.putObj_heap_other (by rw [hβ] at hb; exact hb)) (by
       refine ⟨{ r with state := .exhausted }, vs', ?_, ⟨q2, rfl, q4⟩, q5, ?_⟩
       · rw [hβ]; exact World.putObj_heap_same hsz
       · exact CR.mono hF' (fun q v _ => Ag.refl _ _ _ v) q6)).dropOb hlow
     have hr4 : Rel G E' F' ⟨st.tm, setOb st2.ob st.ob.length .gone⟩ { a with defers := mark ++ a.defers } (w'.putObj w1.heap.size (.loop { r with state := .exhausted })) := by
       have hee : ((st2.setO st.ob.length (.lp C .exhausted j2 c)).setO st.ob.length .gone) = ⟨st.tm ++ [.yld st.ob.length], setOb st2.ob st.ob.length .gone⟩ := by
         simp only [St.setO, htm, rfSt, St.mk.injEq, true_and]
         apply List.ext_getElem?
         intro i
         simp only [setOb_get]
         split
         · rfl
         · split
           · rename_i h1 h2
             congr 1
             simp only [List.getD_eq_getElem?_getD, setOb_get, h1, if_false, h2, if_true, Option.getD_some]
           · rfl
       rw [hee] at hr3
       exact Rel.pop (a := { a with defers := mark ++ a.defers }) hr3
     have := hnext _ _ _ _ hr4
     rw [← q4] at this
     unfold afterJ at this
     split at this
     · rename_i hj
       rw [hj] at this ⊢
       exact this
     · rename_i c hj
       rw [hj] at this ⊢
       exact this
 refine wpIn_rangeFunc fun fn _ => ?_
 cases hr : X.ro with
 | none =>
   have hro' : ro = none := by rw [hro, hr]; rfl
   refine key fn w.heap.size _ _ _ h.mark ?_
   rw [hro', run_enterLoop_outer, World.size_alloc]
 | some q =>
   have hro' : ro = some (G.E0.β q) := by rw [hro, hr]; rfl
   unfold rndOk at hrnd
   rw [hr] at hrnd
   simp only at hrnd
   split at hrnd <;> try (cases hrnd; done)
   rename_i C0 s0 j0 c0 hq
   have hq0 : q < G.m0 := by rw [hm]; simpa using hrnd
   obtain ⟨r0, vs0, q1, _⟩ := h.obs _ _ hq
   have hst := (h.stay q ⟨0, .cell⟩ hq0 (by simp [St.inf, hq, Ob.inf]) rfl).1
   rw [hst] at q1
   refine key fn r0.defers [] F w h ?_
   rw [hro']
   unfold Instr.enterLoop
   simp only [Sem.run_bind, run_getLoop q1, run_newObj_alloc, Result.andThen, Sem.run_pure]
end
end Go.Am

/- The abstract machine, part 23t: regions whose order is open, all orders tried. -/
namespace Go.Am
open Go
def subB (l done : List Nat) : Bool := match l with
 | [] => true
 | k :: l => inB k done && subB l done
/-- Every operation that may come next. -/
def trs (f : Nat → Oper → Prop) (done : List Nat) : Nat → List Oper → Prop
 | _, [] => True
 | i, o :: l => (match !inB i done && subB (edgesOf o) done with
   | true => f i o ∧ trs f done (i + 1) l
   | false => trs f done (i + 1) l)
def tr (X : Cy) (all : Array Oper) (K : St → Prop) : Nat → List Nat → St → Prop
 | 0, _, st => K st
 | n + 1, done, st => trs (fun i o => match guardOf all o st with
   | some true => (match effO X st o with
     | some (st', p) => p ∧ tr X all K n (i :: done) st'
     | none => False)
   | some false => (match st.putB o.dst (.tup []) with
     | some st' => tr X all K n (i :: done) st'
     | none => False)
   | none => False) done 0 all.toList
/-- The operations, in the order of the text. -/
def foldO (X : Cy) (all : Array Oper) : List Oper → St → Option St
 | [], st => some st
 | o :: l, st => (match guardOf all o st with
   | some true => (match effO X st o with
     | some (st', _) => foldO X all l st'
     | none => none)
   | some false => (match st.putB o.dst (.tup []) with
     | some st' => foldO X all l st'
     | none => none)
   | none => none)
/-- Tuples are let go. -/
def killT : List AV → List AV
 | [] => []
 | a :: l => (match a with
   | .tup _ => .dead
   | .ptr _ _ (_ :: _) => .dead
   | .pt _ _ => .dead
   | a => a) :: killT l
theorem inB_mem {i : Nat} : ∀ {l : List Nat}, inB i l = true ↔ i ∈ l
 | [] => by simp [inB]
 | j :: l => by
   simp only [inB, Bool.or_eq_true, List.mem_cons, inB_mem (l := l)]
   constructor
   · rintro (h | h)
     · exact .inl (Nat.eq_of_beq_eq_true h)
     · exact .inr h
   · rintro (h | h)
     · exact .inl (by rw [h]; simp)
     · exact .inr h
theorem subB_mem {done : List Nat} : ∀ {l : List Nat}, (∀ k ∈ l, k ∈ done) → subB l done = true
 | [], _ => rfl
 | k :: l, h => by
   simp only [subB, Bool.and_eq_true]
   exact ⟨inB_mem.mpr (h k (by simp)), subB_mem fun q hq => h q (by simp [hq])⟩
theorem trs_get {f : Nat → Oper → Prop} {done : List Nat} : ∀ {l : List Oper} {b : Nat}, trs f done b l → ∀ (i : Nat) (o : Oper), l[i]? = some o → b + i ∉ done → (∀ k ∈ edgesOf o, k ∈ done) → f (b + i) o
 | [], b, _, i, o, h, _, _ => by simp at h
 | o' :: l, b, h, i, o, hi, hn, he => by
   unfold trs at h
   cases i with
   | zero =>
     simp at hi; subst hi
     have hc : (!inB b done && subB (edgesOf o') done) = true := by
       simp only [Bool.and_eq_true, Bool.not_eq_true']
       refine ⟨?_, subB_mem he⟩
       cases hh : inB b done with
       | false => rfl
       | true => exact absurd (inB_mem.mp hh) hn
     rw [hc] at h
     exact h.1
   | succ i =>
     have h' : trs f done (b + 1) l := by
       split at h
       · exact h.2
       · exact h
     have := trs_get h' i o (by simpa using hi) (by rwa [show b + 1 + i = b + (i + 1) by omega]) he
     rwa [show b + 1 + i = b + (i + 1) by omega] at this
section
variable {X : Cy} {G : En} {E : Env} {F : Nat → Prop} {st : St} {a : Act} {w : World}
theorem ready_ne {md : Region.Mode} {all : Array Oper} (hd : DrawOk all all.size) {listed : Array Bool} (hsz : listed.size = all.size) {j : Nat} (hj : j < all.size) (hf : listed.getD j false = false) : Region.ready md all listed ≠ [] := by
 intro hnil
 obtain ⟨rk, hrk⟩ := hd.rk md
 have : ∀ n j, rk j < n → j < all.size → listed.getD j false = false → False := by
   intro n
   induction n with
   | zero => intro j hj; omega
   | succ n ihn =>
     intro j hjn hj hf
     have ho : all[j]? = some all[j] := by simp [hj]
     by_cases hk : ∀ e ∈ (all[j]).after.toList, Region.binds md e = true → listed.getD e.on false = true
     · have := ready_if (md := md) hsz ho hf hk
       rw [hnil] at this; cases this
     · have : ∃ e ∈ (all[j]).after.toList, Region.binds md e = true ∧ listed.getD e.on false = false := by
         refine Classical.byContradiction fun hne => hk fun k hk' hb => ?_
         cases hh : listed.getD k.on false with
         | true => rfl
         | false => exact absurd ⟨k, hk', hb, hh⟩ hne
       obtain ⟨k, hk1, hkb, hk2⟩ := this
       have := hrk j _ k hj ho hk1 hkb
       exact ihn k.on (by omega) this.1 hk2
 exact this (rk j + 1) j (by omega) hj hf
theorem cnt_pos {f : Nat → Bool} : ∀ {n : Nat}, cnt f n ≠ 0 → ∃ i, i < n ∧ f i = false
 | 0, h => absurd rfl h
 | n + 1, h => by
   simp only [cnt] at h
   cases hf : f n with
   | false => exact ⟨n, by omega, hf⟩
   | true =>
     rw [hf] at h
     obtain ⟨i, h1, h2⟩ := cnt_pos (n := n) (by simpa using h)
     exact ⟨i, by omega, h2⟩
theorem tree_any {ro : Option Nat} {md : Region.Mode} (hX : X.Ok) (hG : G.gl = X.gl) (hm : G.m0 = X.m0) {all : Array Oper} (hd : DrawOk all all.size) {K : St → Prop} {Q : Exit → Act → World → Prop} (hK : ∀ st E F a w, K st → Rel G E F st a w → Q .normal a w) :
   ∀ (n : Nat) (done : List Nat) (listed : Array Bool) (st : St) (E : Env) (F : Nat → Prop) (a : Act) (w : World), listed.size = all.size → (∀ j, listed.getD j false = true ↔ j ∈ done) → cnt (fun j => listed.getD j false) all.size = n →
     tr X all K n done st → Rel G E F st a w → wpAnyIn (Fw ro) 0 X.P md all Q n listed a w := by
 intro n
 induction n with
 | zero =>
   intro done listed st E F a w hsz hl hc ht hr
   have hall := cnt_zero hc
   refine ⟨List.eq_nil_iff_forall_not_mem.mpr fun j hj => ?_, hK st E F a w ht hr⟩
   obtain ⟨o, ho, h1, _⟩ := ready_of hsz hj
   have := hall j (Array.getElem?_eq_some_iff.mp ho).1
   simp only [h1] at this
   cases this
 | succ n ih =>
   intro done listed st E F a w hsz hl hc ht hr
   refine ⟨fun hnil => ?_, fun i hi => ?_⟩
   · obtain ⟨j, h1, h2⟩ := cnt_pos (f := fun j => listed.getD j false) (n := all.size) (by omega)
     exact absurd hnil (ready_ne hd hsz h1 h2)
   · obtain ⟨o, ho, hnl, hedges⟩ := ready_of hsz hi
     have his := (Array.getElem?_eq_some_iff.mp ho).1
     have hnd : i ∉ done := fun hh => by rw [(hl i).mpr hh] at hnl; cases hnl
     simp only [tr] at ht
     have hf := trs_get ht i o (by rw [Array.getElem?_toList]; exact ho) (by rwa [Nat.zero_add]) fun k hk => (hl k).mp (hedges k hk)
     rw [Nat.zero_add] at hf
     have hS' : ∀ q, (listed.setIfInBounds i true).getD q false = if q = i then true else listed.getD q false := fun q => getD_set (by omega)
     have hgo : ∀ st' E' F' a' w', tr X all K n (i :: done) st' → Rel G E' F' st' a' w' → wpAnyIn (Fw ro) 0 X.P md all Q n (listed.setIfInBounds i true) a' w' := fun st' E' F' a' w' ht' hr' => by
       refine ih (i :: done) _ st' E' F' a' w' (by simpa using hsz) (fun j => ?_) ?_ ht' hr'
       · rw [hS']
         by_cases e : j = i
         · simp [e]
         · simp only [e, if_false, List.mem_cons, false_or]; exact hl j
       · have := cnt_set (f := fun j => listed.getD j false) (g := fun j => (listed.setIfInBounds i true).getD j false) (i := i) his hnl (by simp [hS']) (fun j hj => by simp [hS', hj])
         omega
     unfold wpOpIn
     simp only [ho]
     split at hf <;> try (exact hf.elim)
     · rename_i hg
       rw [if_pos (guardOf_wanted hr hg)]
       split at hf <;> try (exact hf.elim)
       rename_i st' p he
       exact run_effO hX hG hm hr he hf.1 fun E' F' a' w' hr' => hgo st' E' F' a' w' hf.2 hr'
     · rename_i hg
       rw [if_neg (by rw [guardOf_wanted hr hg]; simp)]
       split at hf <;> try (exact hf.elim)
       rename_i st' hp
       exact ⟨fun _ _ => trivial, hgo st' _ _ _ _ hf (hr.putB (v := undef) hp (by simp only [TR]; exact ⟨[], rfl, by simp only [VRs]⟩))⟩
theorem region_tree {ro : Option Nat} (hX : X.Ok) (hG : G.gl = X.gl) (hm : G.m0 = X.m0) {id : Nat} {all : Array Oper} (hd : DrawOk all all.size) {s1 : St} {Q : Exit → Act → World → Prop} (ht : tr X all (fun st => St.ge X.m0 s1 st) all.size [] st)
   (hnext : ∀ E F a w, Rel G E F s1 a w → Q .normal a w) (hr : Rel G E F st a w) : (Code.region id all true).wpIn (Fw ro) 0 X.P Q a w := by
 have hgrow : w.grownBy { w with drawn := w.drawn + 1 } none := ⟨rfl, rfl, rfl, Nat.le_refl _, fun _ _ _ => rfl⟩
 have hr' := hr.grown hgrow (fun _ => False) fun b hb => hb.elim
 have key : ∀ md, wpAnyIn (Fw ro) 0 X.P md all Q all.size (Array.replicate all.size false) a { w with drawn := w.drawn + 1 } := fun md => by
   have h0 : ∀ j, (Array.replicate all.size false).getD j false = false := fun j => by
     simp only [Array.getD_eq_getD_getElem?, Array.getElem?_replicate]
     split <;> rfl
   refine tree_any hX hG hm hd (K := fun st => St.ge X.m0 s1 st) (fun st E F a w hk hr => hnext E F a w (hr.weaken (by rw [hm]; exact hk))) all.size [] _ st E _ a _ (by simp) (fun j => by rw [h0]; simp) ?_ ht hr'
   have : ∀ n, cnt (fun j => (Array.replicate all.size false).getD j false) n = n := by
     intro n
     induction n with
     | zero => rfl
     | succ n ih => simp only [cnt]; rw [ih, if_neg (by rw [h0]; simp)]
   exact this _
 refine wpIn_region_draw fun t => ?_
 unfold Region.schedule
 split
 · exact wpAnyIn_sound all.size t _ a _ (key .any)
 · exact wpAnyIn_sound all.size _ _ a _ (key _)
end
end Go.Am

/- The abstract machine, part 24: code. -/
namespace Go.Am
open Go
def noG (Q : Exit → Act → World → Prop) : Exit → Act → World → Prop
 | .goto _, _, _ => False
 | e, a, w => Q e a w
section
variable {F : Fence} {n : Nat} {P : Program} {b : Frame} {a : Act} {k : List Item} {cs : List Frame} {w : World} {Q : Exit → Act → World → Prop}
theorem stepR_scope {c : Code} : step P (lone (b.atR a (.code (.scope c) :: k)) cs w) = .next (lone (b.atR a (.code c :: .inScope c :: k)) cs w) :=
 step_lone_go (by simp [stepG, stepG.exec, Frame.atR])
theorem stepR_inScope {c : Code} : step P (lone (b.atR a (.inScope c :: k)) cs w) = .next (lone (b.atR a k) cs w) :=
 step_lone_go (by simp [stepG, stepG.exec, Frame.atR])
theorem wpIn_scope {c : Code} (h : c.wpIn F n P (noG Q) a w) : (Code.scope c).wpIn F n P Q a w := by
 intro b k cs hro hb hr
 have h0 : (lone (b.atR a (.code (.scope c) :: k)) cs w).fenced P F := fenced_calm hb hr rfl
 obtain ⟨e, a₁, w₁, hq, harr⟩ := h b (.inScope c :: k) cs hro hb hr
 cases e with
 | normal => exact ⟨.normal, a₁, w₁, hq, .head h0 stepR_scope (StepsIn.trans harr (.one (fenced_calm hb hr rfl) stepR_inScope))⟩
 | exit id' =>
   have hx : exitTo id' (.inScope c :: k) = exitTo id' k := by simp [exitTo]
   exact ⟨.exit id', a₁, w₁, hq, fun k' hk => .head h0 stepR_scope (harr.1 k' (by rw [hx]; exact hk)),
     fun hr' hk => let ⟨k₁, h1, h2⟩ := harr.2 hr' (by rw [hx]; exact hk); ⟨k₁, h1, .head h0 stepR_scope h2⟩⟩
 | goto l => exact hq.elim
 | ret => exact ⟨_, a₁, w₁, hq, .of_steps (.one h0 stepR_scope) harr⟩
 | panic ch => exact ⟨_, a₁, w₁, hq, .of_steps (.one h0 stepR_scope) harr⟩
 | outgrown => exact ⟨_, a₁, w₁, hq, .of_steps (.one h0 stepR_scope) harr⟩
end
inductive It
 | code (c : Code)
 | blk (id : Nat)
 | inv (J : St → Prop)
 | beg
 | scp
 | ops (all : Array Oper) (i : Nat) (l : List Oper)
 | hd (all : Array Oper) (i : Nat) (l : List Oper) (m : Nat)
 | hn (all : Array Oper) (i : Nat) (l : List Oper) (m : Nat) (obs : List Ob) (don : List Nat)
 | hc (all : Array Oper) (i : Nat) (l : List Oper) (m c : Nat) (aft : Option (List Ob)) (pend : List (Oper × List AV × AV))
/-- May an operation stand in the pure part of a region? -/
def headOp (o : Oper) : Bool :=
 match o.op with
 | .store _ _ _ | .alloc _ | .box _ _ | .buildSlice _ _ _ | .makeSlice _ _ _ | .mapUpdate _ _ _ _ | .insert _ _ _ _ | .makeMap _ _ => false
 | .call c => (match c.callee with
   | .builtin .append | .builtin .copy | .builtin .clear => false
   | _ => true)
 | _ => true
def isStore (o : Oper) : Bool := match o.op with
 | .store _ _ _ => true
 | _ => false
def headLen : List Oper → Nat
 | [] => 0
 | o :: l => (match headOp o with
   | true => headLen l + 1
   | false => 0)
def headOf (X : Cy) (id : Nat) (ops : Array Oper) : Nat :=
 match X.dr id with
 | some m => (match Nat.ble 500 (m % 1000) with
   | true => m % 1000 - 500
   | false => m % 1000)
 | none => headLen ops.toList
/-- New objects are made by calls there (500 is added to the length of the head). -/
def newIn (X : Cy) (id : Nat) : Bool :=
 match X.dr id with
 | some m => Nat.ble 500 (m % 1000)
 | none => false
/-- A call that makes a new object. -/
def newCall (X : Cy) (st : St) (o : Oper) : Bool :=
 match o.op with
 | .call c => (match callN X st 0 c with
   | some _ => true
   | none => false)
 | _ => false
/-- Which operation of a region is a call that changes objects: 'X.dr' holds its number plus 1, times 1000. -/
def callOf (X : Cy) (id : Nat) : Option Nat :=
 match X.dr id with
 | some m => (match m / 1000 with
   | 0 => none
   | c + 1 => some c)
 | none => none
def treeOf (X : Cy) (id : Nat) : Bool :=
 match X.dr id with
 | some m => Nat.ble 1000000 m
 | none => false
def ancB (all : Array Oper) (i j : Nat) : Bool := ((masksOf all.toList []).getD i 0).testBit j
theorem ancB_spec {all : Array Oper} {i j : Nat} (h : ancB all i j = true) : Anc all i j :=
 masksOf_bit (ms := []) (fun j i hb => by simp at hb) (by simp) i j h
/-- The operation yields the same. -/
def samePure (X : Cy) (all : Array Oper) (o : Oper) (tm : List AV) (ob : List Ob) (v : AV) : Prop :=
 match effH X ⟨keepTm (o.looksAt all) 0 tm, ob⟩ o with
 | some (v', p) => p ∧ v' = v
 | none => False
def pendOk (X : Cy) (all : Array Oper) (ob : List Ob) : List (Oper × List AV × AV) → Prop
 | [] => True
 | q :: l => samePure X all q.1 q.2.1 ob q.2.2 ∧ pendOk X all ob l
def hasNew (X : Cy) : List Oper → Bool
 | [] => false
 | o :: l => !(headOp o || lookB X o) || hasNew X l
/-- A pointer to an object that is new. -/
def isNewPtr (nid : Nat) : AV → Bool
 | .ptr o _ _ => Nat.beq o nid
 | .own o _ => Nat.beq o nid
 | _ => false
theorem isNewPtr_spec {nid : Nat} {v : AV} (h : isNewPtr nid v = true) : (∀ q : Nat, v.names q = true → q = nid) ∧ (∀ n, n ≤ nid → v.under n = false) ∧ v.under (nid + 1) = true := by
 unfold isNewPtr at h
 split at h
 · have := Nat.eq_of_beq_eq_true h
   subst this
   exact ⟨fun q hq => Nat.eq_of_beq_eq_true (by simpa only [AV.names] using hq), fun n hn => by simp only [AV.under]; exact blt_of_le hn, by simp [AV.under]⟩
 · have := Nat.eq_of_beq_eq_true h
   subst this
   exact ⟨fun q hq => Nat.eq_of_beq_eq_true (by simpa only [AV.names] using hq), fun n hn => by simp only [AV.under]; exact blt_of_le hn, by simp [AV.under]⟩
 · cases h
structure Ex where
 id : Nat
 τ : Type
 post : τ → Prop
 st : τ → St
/-- What a loop is known to do. -/
structure Hint where
 J : St → Prop
 exits : List Ex
def LoopOK (X : Cy) (b : Code) (h : Hint) (R : Exit → St → Prop) : Prop :=
 ∀ (ro : Option Nat) (G : En), G.gl = X.gl → G.m0 = X.m0 → ro = X.ro.map G.E0.β → ∀ E F st a w, Rel G E F st a w → h.J st → (Code.loop b).wpIn (Fw ro) 0 X.P (fun e a w => match e with
   | .exit id => ∃ x, x ∈ h.exits ∧ x.id = id ∧ ∃ y E F, x.post y ∧ Rel G E F (x.st y) a w
   | .ret => ∃ E F st, Rel G E F st a w ∧ R .ret st
   | _ => False) a w
def exitK (id : Nat) : List It → Option (List It)
 | [] => none
 | .blk i :: k => (match Nat.beq i id with
   | true => some k
   | false => exitK id k)
 | _ :: k => exitK id k
def isGIn (i : Nat) : List Oper → Bool
 | [] => false
 | o :: l => (match o.guard with
   | some (j, _) => Nat.beq i j
   | none => false) || isGIn i l
def dstVal (st : St) (o : Oper) : Option (Nat × AV) :=
 match o.dst with
 | some t => (match st.tm[t]? with
   | some v => some (t, v)
   | none => none)
 | none => none
def St.setTm (st : St) (t : Nat) (v : AV) : St := ⟨st.tm.set t v, st.ob⟩
def refine1 (st : St) (c : Operand) (v : AV) : St :=
 match c with
 | .tmp t => st.setTm t v
 | _ => st
def allEx (f : Ex → Prop) : List Ex → Prop
 | [] => True
 | e :: l => f e ∧ allEx f l
def onSt (x : Option St) (f : St → Prop) : Prop := match x with
 | some s => f s
 | none => False
theorem onSt_spec {x : Option St} {f : St → Prop} (h : onSt x f) : ∃ s, x = some s ∧ f s := by
 cases x with
 | none => exact h.elim
 | some s => exact ⟨s, rfl, h⟩
/-- What has to be the same behind the call. -/
def pendAdd (aft : Option (List Ob)) (all : Array Oper) (c i : Nat) (o : Oper) (tm : List AV) (v : AV) (pend : List (Oper × List AV × AV)) : List (Oper × List AV × AV) :=
 match aft, ancB all c i with
 | none, false => (o, tm, v) :: pend
 | _, _ => pend
def run (X : Cy) (H : Nat → Option Hint) (R : Exit → St → Prop) : Nat → St → List It → Prop
 | 0, _, _ => False
 | _ + 1, st, [] => R .normal st
 | n + 1, st, .blk _ :: k => run X H R n st k
 | _ + 1, st, .inv J :: _ => J st
 | n + 1, st, .scp :: k => run X H R n st k
 | n + 1, st, .beg :: k => (match X.ro with
   | some q => (match Nat.blt q X.m0, st.ob[q]? with
     | true, some (.lp C .ready j c) => run X H R n (st.setO q (.lp C .busy j c)) k
     | _, _ => False)
   | none => False)
 | n + 1, st, .ops _ _ [] :: k => run X H R n st k
 | n + 1, st, .ops all i (o :: l) :: k => (match guardOf all o st with
   | some true => (match effO X st o with
     | some (st', p) => p ∧ (match isGIn i l, dstVal st' o with
       | true, some (t, .pb q _) => (q → run X H R n (st'.setTm t .tt) (.ops all (i + 1) l :: k)) ∧ (¬ q → run X H R n (st'.setTm t .ff) (.ops all (i + 1) l :: k))
       | true, some (t, .bool b) => (b = true → run X H R n (st'.setTm t .tt) (.ops all (i + 1) l :: k)) ∧ (b = false → run X H R n (st'.setTm t .ff) (.ops all (i + 1) l :: k))
       | _, _ => run X H R n st' (.ops all (i + 1) l :: k))
     | none => False)
   | some false => (match st.putB o.dst (.tup []) with
     | some st' => run X H R n st' (.ops all (i + 1) l :: k)
     | none => False)
   | none => False)
 | n + 1, st, .hd all _ [] m :: k => run X H R n st (.ops all m (all.toList.drop m) :: k)
 | n + 1, st, .hd all i (o :: l) m :: k => (match guardOf all o (maskO all o st) with
   | some true => (match effH X (maskO all o st) o with
     | some (v, p) => p ∧ (match isGIn i all.toList, v with
       | true, .pb q _ => (q → onSt (st.putB o.dst .tt) fun st' => run X H R n st' (.hd all (i + 1) l m :: k)) ∧ (¬ q → onSt (st.putB o.dst .ff) fun st' => run X H R n st' (.hd all (i + 1) l m :: k))
       | true, .bool b => (b = true → onSt (st.putB o.dst .tt) fun st' => run X H R n st' (.hd all (i + 1) l m :: k)) ∧ (b = false → onSt (st.putB o.dst .ff) fun st' => run X H R n st' (.hd all (i + 1) l m :: k))
       | _, _ => onSt (st.putB o.dst v) fun st' => run X H R n st' (.hd all (i + 1) l m :: k))
     | none => False)
   | some false => onSt (st.putB o.dst (.tup [])) fun st' => run X H R n st' (.hd all (i + 1) l m :: k)
   | none => False)
 | n + 1, st, .hn all _ [] m obs _ :: k => run X H R n ⟨st.tm, st.ob ++ obs⟩ (.ops all m (all.toList.drop m) :: k)
 | n + 1, st, .hn all i (o :: l) m obs don :: k => (match guardOf all o (maskO all o st) with
   | some true => (match (headOp o || lookB X o) && !newCall X (maskO all o st) o with
     | true => (match effH X (maskO all o st) o with
       | some (v, p) => p ∧ (match v.under st.ob.length with
         | true => (match isGIn i all.toList, v with
           | true, .pb q _ => (q → onSt (st.putB o.dst .tt) fun st' => run X H R n st' (.hn all (i + 1) l m (obs ++ [.gone]) don :: k)) ∧ (¬ q → onSt (st.putB o.dst .ff) fun st' => run X H R n st' (.hn all (i + 1) l m (obs ++ [.gone]) don :: k))
           | true, .bool b => (b = true → onSt (st.putB o.dst .tt) fun st' => run X H R n st' (.hn all (i + 1) l m (obs ++ [.gone]) don :: k)) ∧ (b = false → onSt (st.putB o.dst .ff) fun st' => run X H R n st' (.hn all (i + 1) l m (obs ++ [.gone]) don :: k))
           | _, v => onSt (st.putB o.dst v) fun st' => run X H R n st' (.hn all (i + 1) l m (obs ++ [.gone]) don :: k))
         | false => False)
       | none => False)
     | false => (match isStore o with
     | true => (match o.dst, effS X.toCx X.gl ⟨(maskO all o st).tm, st.ob ++ obs⟩ o with
       | none, some (q, x, p) => p ∧ (match Nat.ble st.ob.length q && (Nat.blt q (st.ob.length + i) && (!inB (q - st.ob.length) don && (ancB all i (q - st.ob.length) && x.under st.ob.length))) with
         | true => run X H R n st (.hn all (i + 1) l m (obs.set (q - st.ob.length) x ++ [.gone]) ((q - st.ob.length) :: don) :: k)
         | false => False)
       | _, _ => False)
     | false => (match effNC X (maskO all o st) (st.ob.length + i) o with
       | some (ob, v, p) => p ∧ (match isNewPtr (st.ob.length + i) v, ob.under st.ob.length with
         | true, true => onSt (st.putB o.dst v) fun st' => run X H R n st' (.hn all (i + 1) l m (obs ++ [ob]) don :: k)
         | _, _ => False)
       | none => False)))
   | some false => onSt (st.putB o.dst (.tup [])) fun st' => run X H R n st' (.hn all (i + 1) l m (obs ++ [.gone]) don :: k)
   | none => False)
 | n + 1, st, .hc all _ [] m _ aft _ :: k => (match aft with
   | some ob1 => run X H R n ⟨st.tm, ob1⟩ (.ops all m (all.toList.drop m) :: k)
   | none => False)
 | n + 1, st, .hc all i (o :: l) m c aft pend :: k => (match Nat.beq i c with
   | true => (match guardOf all o (maskO all o st), callC X (maskO all o st) o, aft with
     | some true, some (ob1, v, p), none => p ∧ pendOk X all ob1 pend ∧ onSt (st.putB o.dst v) fun st' => run X H R n st' (.hc all (i + 1) l m c (some ob1) [] :: k)
     | some false, _, none => pendOk X all st.ob pend ∧ onSt (st.putB o.dst (.tup [])) fun st' => run X H R n st' (.hc all (i + 1) l m c (some st.ob) [] :: k)
     | _, _, _ => False)
   | false => (match guardOf all o (maskO all o st) with
     | some false => onSt (st.putB o.dst (.tup [])) fun st' => run X H R n st' (.hc all (i + 1) l m c aft pend :: k)
     | some true => (match effH X (maskO all o ⟨st.tm, (match aft with | some ob1 => ob1 | none => st.ob)⟩) o with
       | some (v, p) => p ∧ (match aft, ancB all i c with
           | some _, true => True
           | some _, false => samePure X all o st.tm st.ob v ∧ okV X st.ob v = true
           | none, _ => okV X st.ob v = true) ∧
         (match isGIn i all.toList, v with
           | true, .pb q _ => (q → onSt (st.putB o.dst .tt) fun st' => run X H R n st' (.hc all (i + 1) l m c aft (pendAdd aft all c i o st.tm v pend) :: k)) ∧ (¬ q → onSt (st.putB o.dst .ff) fun st' => run X H R n st' (.hc all (i + 1) l m c aft (pendAdd aft all c i o st.tm v pend) :: k))
           | true, .bool b => (b = true → onSt (st.putB o.dst .tt) fun st' => run X H R n st' (.hc all (i + 1) l m c aft (pendAdd aft all c i o st.tm v pend) :: k)) ∧ (b = false → onSt (st.putB o.dst .ff) fun st' => run X H R n st' (.hc all (i + 1) l m c aft (pendAdd aft all c i o st.tm v pend) :: k))
           | _, v => onSt (st.putB o.dst v) fun st' => run X H R n st' (.hc all (i + 1) l m c aft (pendAdd aft all c i o st.tm v pend) :: k))
       | none => False)
     | none => False))
 | n + 1, st, .code c :: k => (match c with
   | .skip => run X H R n st k
   | .label _ => run X H R n st k
   | .region _ ops false => run X H R n st (.ops ops 0 ops.toList :: k)
   | .region id ops true => (match treeOf X id with
     | true => (match drawOk ops ops.size, foldO X ops ops.toList st with
       | true, some s1 => tr X ops (fun st' => St.ge X.m0 ⟨killT s1.tm, s1.ob⟩ st') ops.size [] st ∧ run X H R n ⟨killT s1.tm, s1.ob⟩ k
       | _, _ => False)
     | false => (match drawOk ops (headOf X id ops) with
     | true => (match callOf X id, newIn X id || hasNew X (ops.toList.take (headOf X id ops)) with
       | some c, _ => (match okL X st.ob st.tm, Nat.blt c (headOf X id ops) with
         | true, true => run X H R n st (.hc ops 0 (ops.toList.take (headOf X id ops)) (headOf X id ops) c none [] :: k)
         | _, _ => False)
       | none, false => run X H R n st (.hd ops 0 (ops.toList.take (headOf X id ops)) (headOf X id ops) :: k)
       | none, true => (match AV.underL st.ob.length st.tm && Ob.underL st.ob.length st.ob with
         | true => run X H R n st (.hn ops 0 (ops.toList.take (headOf X id ops)) (headOf X id ops) [] [] :: k)
         | false => False))
     | false => False))
   | .seq a b => run X H R n st (.code a :: .code b :: k)
   | .cond c x y => (match evalA X.gl st c with
     | some .tt => run X H R n st (.code x :: k)
     | some .ff => run X H R n st (.code y :: k)
     | some (.pb q _) => (q → run X H R n (refine1 st c .tt) (.code x :: k)) ∧ (¬ q → run X H R n (refine1 st c .ff) (.code y :: k))
     | some (.bool b) => (b = true → run X H R n (refine1 st c .tt) (.code x :: k)) ∧ (b = false → run X H R n (refine1 st c .ff) (.code y :: k))
     | _ => False)
   | .block id (.loop b) => (match H id with
     | some h => LoopOK X b h R ∧ h.J st ∧ allEx (fun e => match Nat.beq e.id id, exitK e.id k with
       | true, _ => ∀ y : e.τ, e.post y → run X H R n (e.st y) k
       | false, some k' => ∀ y : e.τ, e.post y → run X H R n (e.st y) k'
       | false, none => ∀ y : e.τ, e.post y → R (.exit e.id) (e.st y)) h.exits
     | none => False)
   | .block id b => run X H R n st (.code b :: .blk id :: k)
   | .exit id => (match exitK id k with
     | some k' => run X H R n st k'
     | none => R (.exit id) st)
   | .ret => R .ret st
   | .scope c => run X H R n st (.code c :: .scp :: k)
   | .rangeFunc g ps asg body => (match rfA X st g ps asg body with
     | some (st', p, j) => p ∧ ((j = none → run X H R n st' k) ∧ inJ j (dedJ (jumpsC [] asg ++ jumpsC [] body) []) ∧ allJ (fun x => j = some (jmp x) → run X H R n st' (.code (jmp x) :: k)) (dedJ (jumpsC [] asg ++ jumpsC [] body) []))
     | none => False)
   | _ => False)
theorem wpOps_of {ro : Option Nat} {P : Program} {all : Array Oper} {Q : Exit → Act → World → Prop} : ∀ (l : List Oper) (i : Nat) (a : Act) (w : World), all.toList.drop i = l → wpLs ro P all Q l a w → wpOpsIn (Fw ro) 0 P all Q (List.range' i l.length) a w
 | [], i, a, w, _, h => h
 | o :: l, i, a, w, hd, h => by
   have hi : all[i]? = some o := by
     rw [← Array.getElem?_toList, show all.toList[i]? = (all.toList.drop i)[0]? by simp, hd]; rfl
   have hd' : all.toList.drop (i + 1) = l := by
     have : all.toList.drop (i + 1) = (all.toList.drop i).drop 1 := by rw [List.drop_drop]
     rw [this, hd]; rfl
   simp only [List.length_cons, List.range'_succ, wpOpsIn, hi]
   simp only [wpLs] at h
   split
   · rename_i hw
     rw [if_pos hw] at h
     exact (Oper.wpIn_mono (fun a w h => wpOps_of l (i + 1) a w hd' h) h)
   · rename_i hw
     rw [if_neg hw] at h
     exact ⟨fun _ _ => trivial, wpOps_of l (i + 1) _ w hd' h⟩
def SemK (ro : Option Nat) (P : Program) (R : Exit → Act → World → Prop) (IV : (St → Prop) → Act → World → Prop) : List It → Exit → Act → World → Prop
 | [] => R
 | .code c :: k => Exit.then (c.wpIn (Fw ro) 0 P (SemK ro P R IV k)) (SemK ro P R IV k)
 | .blk id :: k => Exit.inBlock id (SemK ro P R IV k)
 | .inv J :: k => Exit.then (IV J) (SemK ro P R IV k)
 | .scp :: k => noG (SemK ro P R IV k)
 | .beg :: k => Exit.then (fun a w => ∀ l, ro = some l → ∃ w2, (Instr.beginRound l).run P w = .ok () w2 ∧ SemK ro P R IV k .normal a w2) (SemK ro P R IV k)
 | .ops all _ l :: k => Exit.then (wpLs ro P all (SemK ro P R IV k) l) (SemK ro P R IV k)
 | .hd _ _ _ _ :: _ => fun _ _ _ => True
 | .hn _ _ _ _ _ _ :: _ => fun _ _ _ => True
 | .hc _ _ _ _ _ _ _ :: _ => fun _ _ _ => True
section
variable {P : Program} {R : Exit → Act → World → Prop} {IV : (St → Prop) → Act → World → Prop}
theorem SemK.ret {ro : Option Nat} {a : Act} {w : World} (h : R .ret a w) : ∀ k, SemK ro P R IV k .ret a w
 | [] => h
 | .code _ :: k => SemK.ret h k
 | .blk _ :: k => SemK.ret h k
 | .inv _ :: k => SemK.ret h k
 | .beg :: k => SemK.ret h k
 | .scp :: k => SemK.ret h k
 | .ops _ _ _ :: k => SemK.ret h k
 | .hd _ _ _ _ :: _ => trivial
 | .hn _ _ _ _ _ _ :: _ => trivial
 | .hc _ _ _ _ _ _ _ :: _ => trivial
theorem SemK.exit {ro : Option Nat} {a : Act} {w : World} {id : Nat} : ∀ {k k' : List It}, exitK id k = some k' → SemK ro P R IV k' .normal a w → SemK ro P R IV k (.exit id) a w
 | [], _, h, _ => by simp [exitK] at h
 | .code _ :: k, k', h, hs => SemK.exit (k := k) h hs
 | .inv _ :: k, k', h, hs => SemK.exit (k := k) h hs
 | .beg :: k, k', h, hs => SemK.exit (k := k) h hs
 | .scp :: k, k', h, hs => SemK.exit (k := k) h hs
 | .ops _ _ _ :: k, k', h, hs => SemK.exit (k := k) h hs
 | .hd _ _ _ _ :: _, _, _, _ => trivial
 | .hn _ _ _ _ _ _ :: _, _, _, _ => trivial
 | .hc _ _ _ _ _ _ _ :: _, _, _, _ => trivial
 | .blk i :: k, k', h, hs => by
   unfold exitK at h
   split at h
   · rename_i e
     injection h with h; subst h
     have := Nat.eq_of_beq_eq_true e
     subst this
     simp only [SemK, Exit.inBlock, if_true]; exact hs
   · rename_i e
     have hne : ¬ id = i := fun e' => by subst e'; simp at e
     simp only [SemK, Exit.inBlock, hne, if_false]
     exact SemK.exit h hs
theorem SemK.out {ro : Option Nat} {a : Act} {w : World} {id : Nat} (h : R (.exit id) a w) : ∀ {k : List It}, exitK id k = none → SemK ro P R IV k (.exit id) a w
 | [], _ => h
 | .code _ :: k, hk => SemK.out h (k := k) hk
 | .inv _ :: k, hk => SemK.out h (k := k) hk
 | .beg :: k, hk => SemK.out h (k := k) hk
 | .scp :: k, hk => SemK.out h (k := k) hk
 | .ops _ _ _ :: k, hk => SemK.out h (k := k) hk
 | .hd _ _ _ _ :: _, _ => trivial
 | .hn _ _ _ _ _ _ :: _, _ => trivial
 | .hc _ _ _ _ _ _ _ :: _, _ => trivial
 | .blk i :: k, hk => by
   unfold exitK at hk
   split at hk
   · cases hk
   · rename_i e
     have hne : ¬ id = i := fun e' => by subst e'; simp at e
     simp only [SemK, Exit.inBlock, hne, if_false]
     exact SemK.out h hk
end
section
variable {X : Cy} {G : En} {E : Env} {F : Nat → Prop} {st : St} {a : Act} {w : World}
theorem Rel.setTm (h : Rel G E F st a w) {t : Nat} {x y : AV} (hx : st.tm[t]? = some x) (hy : ∀ u, TR E st.inf F w x u → TR E st.inf F w y u) : Rel G E F (st.setTm t y) a w := by
 refine { h with size := by simp [St.setTm, h.size], tms := ?_, obs := h.obs, apart := h.apart, inj := h.inj, own := h.own, stay := h.stay, live0 := h.live0 }
 intro i z hz
 simp only [St.setTm, List.getElem?_set] at hz
 by_cases e : t = i
 · subst e
   rw [if_pos rfl] at hz
   split at hz <;> try (cases hz; done)
   injection hz with hz; subst hz
   exact hy _ (h.tms _ _ hx)
 · rw [if_neg e] at hz
   exact h.tms _ _ hz
theorem TR.tt_of {I : Nat → Option Inf} {u : Value} {q : Prop} {d : Decidable q} (hq : q) (h : TR E I F w (.pb q d) u) : TR E I F w .tt u := by
 obtain ⟨h1, h2⟩ := h
 refine ⟨?_, h2⟩
 simp only [CR] at h1 ⊢
 rw [h1]; simp [hq]
theorem TR.ff_of {I : Nat → Option Inf} {u : Value} {q : Prop} {d : Decidable q} (hq : ¬ q) (h : TR E I F w (.pb q d) u) : TR E I F w .ff u := by
 obtain ⟨h1, h2⟩ := h
 refine ⟨?_, h2⟩
 simp only [CR] at h1 ⊢
 rw [h1]; simp [hq]
theorem TR.b_of {I : Nat → Option Inf} {u : Value} {b : Bool} (h : TR E I F w (.bool b) u) : TR E I F w (match b with | true => .tt | false => .ff) u := by
 cases b <;> exact h
theorem allEx_mem {f : Ex → Prop} : ∀ {l : List Ex} {e : Ex}, allEx f l → e ∈ l → f e
 | [], e, _, h => by cases h
 | x :: l, e, h, he => by
   simp only [allEx] at h
   cases he with
   | head => exact h.1
   | tail _ he => exact allEx_mem h.2 he
def HdEx (X : Cy) (H : Nat → Option Hint) (R : Exit → St → Prop) (all : Array Oper) (m : Nat) (k : List It) (l : List Oper) (i n : Nat) (st : St) : Prop :=
   ∃ n' e, ∃ (s : Nat → St) (vals : Nat → AV), n' < n ∧ s i = st ∧ s (i + l.length) = e ∧ (∀ j, i ≤ j → j < i + l.length → ∃ o, all[j]? = some o ∧ (s j).putB o.dst (vals j) = some (s (j + 1)) ∧
     ((guardOf all o (maskO all o (s j)) = some false ∧ vals j = .tup []) ∨
      (guardOf all o (maskO all o (s j)) = some true ∧ ∃ v p, effH X (maskO all o (s j)) o = some (v, p) ∧ p ∧ ∀ E I F w u, TR E I F w v u → TR E I F w (vals j) u))) ∧
     run X H R n' e (.ops all m (all.toList.drop m) :: k)
/-- The pure part of a region whose order is open. -/
theorem hd_plan {H : Nat → Option Hint} {R : Exit → St → Prop} {all : Array Oper} {m : Nat} {k : List It} : ∀ (l : List Oper) (i n : Nat) (st : St), run X H R n st (.hd all i l m :: k) → (∀ j, j < l.length → all[i + j]? = l[j]?) →
   HdEx X H R all m k l i n st
 | [], i, n, st, h, _ => by
   cases n with
   | zero => simp only [run] at h
   | succ n =>
     simp only [run] at h
     exact ⟨n, st, fun _ => st, fun _ => .dead, Nat.lt_succ_self n, rfl, rfl, fun j h1 h2 => absurd h2 (by simp; omega), h⟩
 | o :: l, i, n, st, h, hl => by
   cases n with
   | zero => simp only [run] at h
   | succ n =>
     simp only [run] at h
     have ho : all[i]? = some o := by simpa using hl 0 (by simp)
     have hl' : ∀ j, j < l.length → all[i + 1 + j]? = l[j]? := fun j hj => by
       have := hl (j + 1) (by simpa using hj)
       rw [show i + 1 + j = i + (j + 1) by omega, this]; simp
     have go : ∀ (v : AV) (st' : St), st.putB o.dst v = some st' → ((guardOf all o (maskO all o st) = some false ∧ v = .tup []) ∨
         (guardOf all o (maskO all o st) = some true ∧ ∃ v0 p, effH X (maskO all o st) o = some (v0, p) ∧ p ∧ ∀ E I F w u, TR E I F w v0 u → TR E I F w v u)) → run X H R n st' (.hd all (i + 1) l m :: k) → HdEx X H R all m k (o :: l) i (n + 1) st := fun v st' hput hc hr => by
       obtain ⟨n', e, s, vals, g1, g2, g3, g4, g5⟩ := hd_plan l (i + 1) n st' hr hl'
       refine ⟨n', e, fun j => if j = i then st else s j, fun j => if j = i then v else vals j, Nat.lt_succ_of_lt g1, by simp, ?_, ?_, g5⟩
       · have : ¬ i + (o :: l).length = i := by simp
         simp only [this, if_false]
         rw [← g3]; congr 1; simp; omega
       · intro j h1 h2
         by_cases e : j = i
         · subst e
           refine ⟨o, ho, ?_, ?_⟩
           · simp only [if_true, show ¬ j + 1 = j by omega, if_false, g2]; exact hput
           · simpa only [if_true] using hc
         · obtain ⟨p, q1, q2, q3⟩ := g4 j (by omega) (by simp at h2; omega)
           refine ⟨p, q1, ?_, ?_⟩
           · simp only [e, if_false, show ¬ j + 1 = i by omega]; exact q2
           · simpa only [e, if_false] using q3
     split at h <;> try (exact h.elim)
     · rename_i hg
       split at h <;> try (exact h.elim)
       rename_i v p he
       have h2 := h.2
       split at h2
       · rename_i q d _
         by_cases hq : q
         · obtain ⟨st', g1, g2⟩ := onSt_spec (h2.1 hq)
           exact go .tt st' g1 (.inr ⟨hg, _, _, he, h.1, fun E I F w u hu => TR.tt_of hq hu⟩) g2
         · obtain ⟨st', g1, g2⟩ := onSt_spec (h2.2 hq)
           exact go .ff st' g1 (.inr ⟨hg, _, _, he, h.1, fun E I F w u hu => TR.ff_of hq hu⟩) g2
       · rename_i b _
         cases b with
         | true =>
           obtain ⟨st', g1, g2⟩ := onSt_spec (h2.1 rfl)
           exact go .tt st' g1 (.inr ⟨hg, _, _, he, h.1, fun E I F w u hu => TR.b_of hu⟩) g2
         | false =>
           obtain ⟨st', g1, g2⟩ := onSt_spec (h2.2 rfl)
           exact go .ff st' g1 (.inr ⟨hg, _, _, he, h.1, fun E I F w u hu => TR.b_of hu⟩) g2
       · obtain ⟨st', g1, g2⟩ := onSt_spec h2
         exact go _ st' g1 (.inr ⟨hg, _, _, he, h.1, fun E I F w u hu => hu⟩) g2
     · rename_i hg
       obtain ⟨st', g1, g2⟩ := onSt_spec h
       exact go (.tup []) st' g1 (.inl ⟨hg, rfl⟩) g2
/-- What lies in a new object, ahead of the operations from i on. -/
def crN (obs : List Ob) (i : Nat) (news : Nat → Option Ob) (j : Nat) : Ob := match Nat.blt j i with
 | true => obs.getD j .gone
 | false => (news j).getD .gone
def finN (obs : List Ob) (i : Nat) (news : Nat → Option Ob) (sto : Nat → Option (Nat × Ob)) (j : Nat) : Ob := match sto j with
 | some (_, x) => x
 | none => crN obs i news j
/-- What a step of such a plan is known to do. -/
def StepN (X : Cy) (all : Array Oper) (base : List Ob) (cr : Nat → Ob) (sto : Nat → Option (Nat × Ob)) (j : Nat) (o : Oper) (σ : St) (v0 : AV) (nw : Option Ob) : Prop :=
 ((∀ j' x, sto j' ≠ some (j, x)) ∧ guardOf all o σ = some false ∧ v0 = .tup [] ∧ nw = none) ∨
 ((∀ j' x, sto j' ≠ some (j, x)) ∧ guardOf all o σ = some true ∧ nw = none ∧ ∃ v p, effH X σ o = some (v, p) ∧ p ∧ v.under base.length = true ∧ v0.under base.length = true ∧ ∀ E I F w u, TR E I F w v u → TR E I F w v0 u) ∨
 ((∀ j' x, sto j' ≠ some (j, x)) ∧ guardOf all o σ = some true ∧ ∃ ob v p, effNC X σ (base.length + j) o = some (ob, v, p) ∧ p ∧ nw = some ob ∧ v0 = v ∧ isNewPtr (base.length + j) v = true ∧ ob.under base.length = true) ∨
 (guardOf all o σ = some true ∧ o.dst = none ∧ nw = none ∧ v0 = .dead ∧ ∃ j' x, sto j' = some (j, x) ∧ (∀ j2 x2, sto j2 = some (j, x2) → j2 = j') ∧ cr j' ≠ .gone ∧ StoreN X base.length σ.tm o j' (cr j') x)
def HnEx (X : Cy) (H : Nat → Option Hint) (R : Exit → St → Prop) (all : Array Oper) (m : Nat) (k : List It) (l : List Oper) (i n : Nat) (st : St) (obs : List Ob) (don : List Nat) : Prop :=
   ∃ n' e, ∃ (s : Nat → St) (vals : Nat → AV) (news : Nat → Option Ob) (sto : Nat → Option (Nat × Ob)), n' < n ∧ s i = st ∧ s (i + l.length) = e ∧ e.ob = st.ob ∧
     (∀ j c x, sto j = some (c, x) → i ≤ c ∧ c < i + l.length ∧ Anc all c j ∧ x.under st.ob.length = true ∧ inB j don = false) ∧
     (∀ j, i ≤ j → j < i + l.length → (s j).ob = st.ob ∧ ∃ o, all[j]? = some o ∧ (s j).putB o.dst (vals j) = some (s (j + 1)) ∧ StepN X all st.ob (crN obs i news) sto j o (maskO all o (s j)) (vals j) (news j)) ∧
     run X H R n' ⟨e.tm, e.ob ++ (List.range (i + l.length)).map (finN obs i news sto)⟩ (.ops all m (all.toList.drop m) :: k)
theorem putB_ob {st st' : St} {d : Option Tmp} {v : AV} (h : st.putB d v = some st') : st'.ob = st.ob := by
 rw [(St.putB_spec h).1, St.ob_put]
theorem crN_app {obs : List Ob} {i : Nat} (hl : obs.length = i) {nw : Option Ob} {news : Nat → Option Ob} (j : Nat) : crN (obs ++ [nw.getD .gone]) (i + 1) news j = crN obs i (fun j => if j = i then nw else news j) j := by
 unfold crN
 by_cases h1 : j < i
 · rw [show Nat.blt j (i + 1) = true by simp; omega, show Nat.blt j i = true by simpa using h1]
   simp only [List.getD_eq_getElem?_getD]
   rw [List.getElem?_append_left (by omega)]
 · by_cases h2 : j = i
   · subst h2
     rw [show Nat.blt j (j + 1) = true by simp, show Nat.blt j j = false by cases hb : Nat.blt j j with
     | false => rfl
     | true => simp at hb]
     simp only [List.getD_eq_getElem?_getD]
     rw [List.getElem?_append_right (by omega), hl]; simp
   · have e1 : Nat.blt j (i + 1) = false := by
       cases hb : Nat.blt j (i + 1) with
       | false => rfl
       | true => simp at hb; omega
     have e2 : Nat.blt j i = false := by
       cases hb : Nat.blt j i with
       | false => rfl
       | true => simp at hb; omega
     rw [e1, e2]
     simp only [h2, if_false]
theorem crN_set {obs : List Ob} {i j0 : Nat} (hl : obs.length = i) {x : Ob} {news : Nat → Option Ob} {j : Nat} (hj : j ≠ j0) : crN (obs.set j0 x ++ [.gone]) (i + 1) news j = crN obs i (fun j => if j = i then none else news j) j := by
 have h := crN_app (obs := obs.set j0 x) (i := i) (by simpa using hl) (nw := none) (news := news) j
 rw [show (Option.getD (none : Option Ob) .gone) = .gone from rfl] at h
 rw [h]
 unfold crN
 split
 · simp only [List.getD_eq_getElem?_getD]
   rw [List.getElem?_set_ne (fun e => hj e.symm)]
 · rfl
theorem effS_gone {X : Cx} {gl : Nat → Option ((t : Ty) × t.D)} {st : St} {o : Oper} {q : Nat} {x : Ob} {p : Prop} (h : effS X gl st o = some (q, x, p)) : ∃ ob, st.ob[q]? = some ob ∧ ob ≠ .gone := by
 unfold effS at h
 split at h <;> try (cases h; done)
 split at h <;> try (cases h; done)
 split at h <;> try (cases h; done)
 rename_i c ob hc hob htu
 split at h <;> try (cases h; done)
 split at h <;> try (cases h; done)
 injection h with h; injection h with h1 _
 subst h1
 refine ⟨_, hob, fun e => ?_⟩
 subst e
 unfold content at hc
 rw [hob] at hc
 cases hc
theorem hn_plan {H : Nat → Option Hint} {R : Exit → St → Prop} {all : Array Oper} {m : Nat} {k : List It} : ∀ (l : List Oper) (i n : Nat) (st : St) (obs : List Ob) (don : List Nat), obs.length = i → run X H R n st (.hn all i l m obs don :: k) → (∀ j, j < l.length → all[i + j]? = l[j]?) →
   HnEx X H R all m k l i n st obs don
 | [], i, n, st, obs, don, hlen, h, _ => by
   cases n with
   | zero => simp only [run] at h
   | succ n =>
     simp only [run] at h
     refine ⟨n, st, fun _ => st, fun _ => .dead, fun _ => none, fun _ => none, Nat.lt_succ_self n, rfl, rfl, rfl, fun _ _ _ h => (by cases h), fun j h1 h2 => absurd h2 (by simp; omega), ?_⟩
     have e : (List.range (i + ([] : List Oper).length)).map (finN obs i (fun _ => none) (fun _ => none)) = obs := by
       apply List.ext_getElem (by simp [hlen])
       intro j h1 h2
       have hj : j < i := by omega
       simp only [List.getElem_map, List.getElem_range, finN, crN]
       rw [show Nat.blt j i = true by simpa using hj]
       simp [List.getD_eq_getElem?_getD, h2]
     rw [e]; exact h
 | o :: l, i, n, st, obs, don, hlen, h, hl => by
   cases n with
   | zero => simp only [run] at h
   | succ n =>
     simp only [run] at h
     have ho : all[i]? = some o := by simpa using hl 0 (by simp)
     have hl' : ∀ j, j < l.length → all[i + 1 + j]? = l[j]? := fun j hj => by
       have := hl (j + 1) (by simpa using hj)
       rw [show i + 1 + j = i + (j + 1) by omega, this]; simp
     have go : ∀ (v : AV) (nw : Option Ob) (st' : St), st.putB o.dst v = some st' → (∀ sto : Nat → Option (Nat × Ob), (∀ j' x, sto j' ≠ some (i, x)) → ∀ cr, StepN X all st.ob cr sto i o (maskO all o st) v nw) →
         run X H R n st' (.hn all (i + 1) l m (obs ++ [nw.getD .gone]) don :: k) → HnEx X H R all m k (o :: l) i (n + 1) st obs don := fun v nw st' hput hc hr => by
       obtain ⟨n', e, s, vals, news, sto, g1, g2, g3, g3', gs, g4, g5⟩ := hn_plan l (i + 1) n st' _ don (by simp [hlen]) hr hl'
       have hob := putB_ob hput
       have hcr : crN (obs ++ [nw.getD .gone]) (i + 1) news = crN obs i (fun j => if j = i then nw else news j) := funext fun j => crN_app hlen j
       refine ⟨n', e, fun j => if j = i then st else s j, fun j => if j = i then v else vals j, fun j => if j = i then nw else news j, sto, Nat.lt_succ_of_lt g1, by simp, ?_, by rw [g3', hob], ?_, ?_, ?_⟩
       · have : ¬ i + (o :: l).length = i := by simp
         simp only [this, if_false]
         rw [← g3]; congr 1; simp; omega
       · intro j c x hs
         obtain ⟨q1, q2, q3, q4, q5⟩ := gs j c x hs
         rw [hob] at q4
         exact ⟨by omega, by simp; omega, q3, q4, q5⟩
       · intro j h1 h2
         by_cases e : j = i
         · subst e
           refine ⟨by simp, o, ho, ?_, ?_⟩
           · simp only [if_true, show ¬ j + 1 = j by omega, if_false, g2]; exact hput
           · simp only [if_true]
             exact hc sto (fun j' x hs => by have := (gs j' j x hs).1; omega) _
         · obtain ⟨p0, p, q1, q2, q3⟩ := g4 j (by omega) (by simp at h2; omega)
           rw [hob] at p0 q3
           rw [hcr] at q3
           refine ⟨by simp only [e, if_false]; exact p0, p, q1, ?_, ?_⟩
           · simp only [e, if_false, show ¬ j + 1 = i by omega]; exact q2
           · simpa only [e, if_false] using q3
       · have hf : finN (obs ++ [nw.getD .gone]) (i + 1) news sto = finN obs i (fun j => if j = i then nw else news j) sto := by
           funext j; unfold finN; rw [hcr]
         rw [hf] at g5
         rw [show i + (o :: l).length = i + 1 + l.length by simp; omega]
         exact g5
     split at h <;> try (exact h.elim)
     · rename_i hg
       split at h
       · split at h <;> try (exact h.elim)
         rename_i v p he
         obtain ⟨hp, h2⟩ := h
         split at h2 <;> try (exact h2.elim)
         rename_i hun
         split at h2
         · rename_i q d _
           by_cases hq : q
           · obtain ⟨st', g1, g2⟩ := onSt_spec (h2.1 hq)
             exact go .tt none st' g1 (fun _ hn _ => .inr (.inl ⟨hn, hg, rfl, _, _, he, hp, hun, rfl, fun E I F w u hu => TR.tt_of hq hu⟩)) g2
           · obtain ⟨st', g1, g2⟩ := onSt_spec (h2.2 hq)
             exact go .ff none st' g1 (fun _ hn _ => .inr (.inl ⟨hn, hg, rfl, _, _, he, hp, hun, rfl, fun E I F w u hu => TR.ff_of hq hu⟩)) g2
         · rename_i b _
           cases b with
           | true =>
             obtain ⟨st', g1, g2⟩ := onSt_spec (h2.1 rfl)
             exact go .tt none st' g1 (fun _ hn _ => .inr (.inl ⟨hn, hg, rfl, _, _, he, hp, hun, rfl, fun E I F w u hu => TR.b_of hu⟩)) g2
           | false =>
             obtain ⟨st', g1, g2⟩ := onSt_spec (h2.2 rfl)
             exact go .ff none st' g1 (fun _ hn _ => .inr (.inl ⟨hn, hg, rfl, _, _, he, hp, hun, rfl, fun E I F w u hu => TR.b_of hu⟩)) g2
         · obtain ⟨st', g1, g2⟩ := onSt_spec h2
           exact go _ none st' g1 (fun _ hn _ => .inr (.inl ⟨hn, hg, rfl, _, _, he, hp, hun, hun, fun E I F w u hu => hu⟩)) g2
       · split at h
         · split at h <;> try (exact h.elim)
           rename_i q x p hd0 he
           obtain ⟨hp, h⟩ := h
           split at h <;> try (exact h.elim)
           rename_i hb
           simp only [Bool.and_eq_true, Nat.ble_eq, Nat.blt_eq, Bool.not_eq_true'] at hb
           obtain ⟨b1, b2, b3, b4, b5⟩ := hb
           generalize hj0 : q - st.ob.length = j0 at *
           have hq : q = st.ob.length + j0 := by omega
           have hji : j0 < i := by omega
           obtain ⟨n', e, s, vals, news, sto, g1, g2, g3, g3', gs, g4, g5⟩ := hn_plan l (i + 1) n st _ (j0 :: don) (by simp [hlen]) h hl'
           have hs0 : ∀ c y, sto j0 ≠ some (c, y) := fun c y hs => by
             have := (gs j0 c y hs).2.2.2.2
             simp [inB] at this
           have hsn : ∀ j c y, sto j = some (c, y) → j ≠ j0 := fun j c y hs e => by subst e; exact hs0 c y hs
           obtain ⟨ob, hob1, hob2⟩ := effS_gone he
           have hobj : obs[j0]? = some ob := by
             have hob1 : (st.ob ++ obs)[q]? = some ob := hob1
             rwa [hq, List.getElem?_append_right (by omega), Nat.add_sub_cancel_left] at hob1
           have hcr0 : crN obs i (fun j => if j = i then none else news j) j0 = ob := by
             unfold crN
             rw [show Nat.blt j0 i = true by simpa using hji]
             simp [List.getD_eq_getElem?_getD, hobj]
           refine ⟨n', e, fun j => if j = i then st else s j, fun j => if j = i then .dead else vals j, fun j => if j = i then none else news j, fun j => if j = j0 then some (i, x) else sto j, Nat.lt_succ_of_lt g1, by simp, ?_, g3', ?_, ?_, ?_⟩
           · have : ¬ i + (o :: l).length = i := by simp
             simp only [this, if_false]
             rw [← g3]; congr 1; simp; omega
           · intro j c y hs
             simp only at hs
             by_cases ej : j = j0
             · subst ej
               rw [if_pos rfl] at hs
               injection hs with hs; injection hs with h1 h2; subst h1 h2
               exact ⟨Nat.le_refl _, by simp, ancB_spec b4, b5, b3⟩
             · rw [if_neg ej] at hs
               obtain ⟨q1, q2, q3, q4, q5⟩ := gs j c y hs
               simp only [inB, Bool.or_eq_false_iff] at q5
               exact ⟨by omega, by simp; omega, q3, q4, q5.2⟩
           · intro j h1 h2
             by_cases e : j = i
             · subst e
               refine ⟨by simp, o, ho, ?_, ?_⟩
               · simp only [if_true, show ¬ j + 1 = j by omega, if_false, g2, hd0]; rfl
               · simp only [if_true]
                 refine .inr (.inr (.inr ⟨hg, hd0, rfl, rfl, j0, x, by simp, fun j2 x2 hs => ?_, by rw [hcr0]; exact hob2, fun ob2 hb2 => ?_⟩))
                 · simp only at hs
                   by_cases ej : j2 = j0
                   · exact ej
                   · rw [if_neg ej] at hs
                     have := (gs j2 j x2 hs).1; omega
                 · rw [hcr0] at hb2
                   refine ⟨p, ?_⟩
                   rw [← hq] at hb2 ⊢
                   exact effS_mono (st := ⟨(maskO all o st).tm, ob2⟩) he (fun t y h => .inr h) (by rw [hob1]; exact hb2)
             · obtain ⟨p0, p, q1, q2, q3⟩ := g4 j (by omega) (by simp at h2; omega)
               refine ⟨by simp only [e, if_false]; exact p0, p, q1, ?_, ?_⟩
               · simp only [e, if_false, show ¬ j + 1 = i by omega]; exact q2
               · simp only [e, if_false]
                 have hns : (∀ j' y, sto j' ≠ some (j, y)) → ∀ j' y, (if j' = j0 then some (i, x) else sto j') ≠ some (j, y) := fun hn j' y hs => by
                   by_cases ej : j' = j0
                   · rw [if_pos ej] at hs
                     injection hs with hs; injection hs with h1 _; omega
                   · rw [if_neg ej] at hs; exact hn j' y hs
                 rcases q3 with ⟨q3, q4⟩ | ⟨q3, q4⟩ | ⟨q3, q4⟩ | ⟨q4, q5, q6, q7, j', y, r1, r2, r3, r4⟩
                 · exact .inl ⟨hns q3, q4⟩
                 · exact .inr (.inl ⟨hns q3, q4⟩)
                 · exact .inr (.inr (.inl ⟨hns q3, q4⟩))
                 · have hne := hsn j' j y r1
                   rw [crN_set hlen hne] at r3 r4
                   refine .inr (.inr (.inr ⟨q4, q5, q6, q7, j', y, by simp only [hne, if_false]; exact r1, fun j2 x2 hs => ?_, r3, r4⟩))
                   simp only at hs
                   by_cases ej : j2 = j0
                   · rw [if_pos ej] at hs
                     injection hs with hs; injection hs with h1 _; omega
                   · rw [if_neg ej] at hs; exact r2 j2 x2 hs
           · have hf : finN (obs.set j0 x ++ [.gone]) (i + 1) news sto = finN obs i (fun j => if j = i then none else news j) (fun j => if j = j0 then some (i, x) else sto j) := by
               funext j
               unfold finN
               by_cases ej : j = j0
               · subst ej
                 simp only [if_true]
                 cases hs : sto j with
                 | some q => exact absurd hs (hs0 q.1 q.2)
                 | none =>
                   simp only [crN]
                   rw [show Nat.blt j (i + 1) = true by simp; omega]
                   simp only [List.getD_eq_getElem?_getD]
                   rw [List.getElem?_append_left (by simp; omega), List.getElem?_set_self (by omega)]; rfl
               · simp only [ej, if_false]
                 cases hs : sto j with
                 | some q => rfl
                 | none => exact crN_set hlen ej
             rw [hf] at g5
             rw [show i + (o :: l).length = i + 1 + l.length by simp; omega]
             exact g5
         · split at h <;> try (exact h.elim)
           rename_i ob v p he
           obtain ⟨hp, h2⟩ := h
           split at h2 <;> try (exact h2.elim)
           rename_i hn hu
           obtain ⟨st', g1, g2⟩ := onSt_spec h2
           exact go _ (some ob) st' g1 (fun _ hns _ => .inr (.inr (.inl ⟨hns, hg, _, _, _, he, hp, rfl, rfl, hn, hu⟩))) g2
     · rename_i hg
       obtain ⟨st', g1, g2⟩ := onSt_spec h
       exact go (.tup []) none st' g1 (fun _ hn _ => .inl ⟨hn, hg, rfl, rfl⟩) g2
/-- What a step of a plan with a call is known to do. -/
def StepC (X : Cy) (all : Array Oper) (c : Nat) (ob0 ob1 : List Ob) (j : Nat) (o : Oper) (tm : List AV) (v : AV) : Prop :=
 (j = c → (guardOf all o (maskO all o ⟨tm, ob0⟩) = some true ∧ ∃ p, callC X (maskO all o ⟨tm, ob0⟩) o = some (ob1, v, p) ∧ p) ∨ (guardOf all o (maskO all o ⟨tm, ob0⟩) = some false ∧ v = .tup [] ∧ ob1 = ob0)) ∧
 (j ≠ c → (¬ Anc all j c → PureOk X all o tm ob0 v ∧ okV X ob0 v = true) ∧ (¬ Anc all c j → PureOk X all o tm ob1 v))
def HcEx (X : Cy) (H : Nat → Option Hint) (R : Exit → St → Prop) (all : Array Oper) (m c : Nat) (k : List It) (l : List Oper) (i n : Nat) (st : St) (aft : Option (List Ob)) (pend : List (Oper × List AV × AV)) : Prop :=
   ∃ n' ob1, ∃ (s : Nat → St) (vals : Nat → AV), n' < n ∧ s i = st ∧ (∀ x, aft = some x → ob1 = x) ∧ pendOk X all ob1 pend ∧ (s (i + l.length)).ob = st.ob ∧ (aft = none → i ≤ c ∧ c < i + l.length) ∧
     (∀ j, i ≤ j → j < i + l.length → (s j).ob = st.ob ∧ ∃ o, all[j]? = some o ∧ (s j).putB o.dst (vals j) = some (s (j + 1)) ∧ StepC X all c st.ob ob1 j o (s j).tm (vals j)) ∧
     run X H R n' ⟨(s (i + l.length)).tm, ob1⟩ (.ops all m (all.toList.drop m) :: k)
theorem samePure_ok {all : Array Oper} {o : Oper} {tm : List AV} {ob : List Ob} {v v1 : AV} {ob0 : List Ob} (h : samePure X all o tm ob v) (hg : guardOf all o (maskO all o ⟨tm, ob0⟩) = some true) (hT : ∀ E I F w u, TR E I F w v u → TR E I F w v1 u) : PureOk X all o tm ob v1 := by
 unfold samePure at h
 split at h <;> try (exact h.elim)
 rename_i v' p he
 obtain ⟨h1, rfl⟩ := h
 exact .inr ⟨hg, _, _, he, h1, hT⟩
theorem hc_plan {H : Nat → Option Hint} {R : Exit → St → Prop} {all : Array Oper} {m c : Nat} {k : List It} : ∀ (l : List Oper) (i n : Nat) (st : St) (aft : Option (List Ob)) (pend : List (Oper × List AV × AV)), run X H R n st (.hc all i l m c aft pend :: k) → (∀ j, j < l.length → all[i + j]? = l[j]?) →
   ((∃ x, aft = some x) → c < i ∧ pend = []) → (aft = none → i ≤ c) → HcEx X H R all m c k l i n st aft pend
 | [], i, n, st, aft, pend, h, _, hc1, hc2 => by
   cases n with
   | zero => simp only [run] at h
   | succ n =>
     simp only [run] at h
     split at h <;> try (exact h.elim)
     rename_i ob1
     obtain ⟨_, rfl⟩ := hc1 ⟨ob1, rfl⟩
     exact ⟨n, ob1, fun _ => st, fun _ => .dead, Nat.lt_succ_self n, rfl, fun x hx => Option.some.inj hx, trivial, rfl, (fun e => nomatch e), fun j h1 h2 => absurd h2 (by simp; omega), h⟩
 | o :: l, i, n, st, aft, pend, h, hl, hc1, hc2 => by
   cases n with
   | zero => simp only [run] at h
   | succ n =>
     simp only [run] at h
     have ho : all[i]? = some o := by simpa using hl 0 (by simp)
     have hl' : ∀ j, j < l.length → all[i + 1 + j]? = l[j]? := fun j hj => by
       have := hl (j + 1) (by simpa using hj)
       rw [show i + 1 + j = i + (j + 1) by omega, this]; simp
     have go : ∀ (v : AV) (st' : St) (aft' : Option (List Ob)) (pend' : List (Oper × List AV × AV)), st.putB o.dst v = some st' → run X H R n st' (.hc all (i + 1) l m c aft' pend' :: k) →
         ((∃ x, aft' = some x) → c < i + 1 ∧ pend' = []) → (aft' = none → i + 1 ≤ c) → (∀ x, aft = some x → aft' = some x) → (aft = none → aft' ≠ none → i = c) →
         (∀ ob1, (∀ x, aft' = some x → ob1 = x) → pendOk X all ob1 pend' → pendOk X all ob1 pend ∧ StepC X all c st.ob ob1 i o st.tm v) → HcEx X H R all m c k (o :: l) i (n + 1) st aft pend := fun v st' aft' pend' hput hr q1 q2 q3 q4 q5 => by
       obtain ⟨n', ob1, s, vals, g1, g2, g3, g4, g5, g6, g7, g8⟩ := hc_plan l (i + 1) n st' aft' pend' hr hl' q1 q2
       have hob := putB_ob hput
       obtain ⟨p1, p2⟩ := q5 ob1 g3 g4
       refine ⟨n', ob1, fun j => if j = i then st else s j, fun j => if j = i then v else vals j, Nat.lt_succ_of_lt g1, by simp, fun x hx => g3 x (q3 x hx), p1, ?_, ?_, ?_, ?_⟩
       · have : ¬ i + (o :: l).length = i := by simp
         simp only [this, if_false]
         rw [show i + (o :: l).length = i + 1 + l.length by simp; omega, g5, hob]
       · intro ha
         cases ha' : aft' with
         | none => have := g6 ha'; simp; omega
         | some x => have := q4 ha (by rw [ha']; simp); simp; omega
       · intro j h1 h2
         by_cases e : j = i
         · subst e
           refine ⟨by simp, o, ho, ?_, ?_⟩
           · simp only [if_true, show ¬ j + 1 = j by omega, if_false, g2]; exact hput
           · simpa only [if_true] using p2
         · obtain ⟨p0, p, r1, r2, r3⟩ := g7 j (by omega) (by simp at h2; omega)
           rw [hob] at p0 r3
           refine ⟨by simp only [e, if_false]; exact p0, p, r1, ?_, ?_⟩
           · simp only [e, if_false, show ¬ j + 1 = i by omega]; exact r2
           · simpa only [e, if_false] using r3
       · have : ¬ i + (o :: l).length = i := by simp
         simp only [this, if_false]
         rw [show i + (o :: l).length = i + 1 + l.length by simp; omega]
         exact g8
     split at h
     · rename_i hic
       have hic := Nat.eq_of_beq_eq_true hic
       split at h <;> try (exact h.elim)
       rotate_left
       · rename_i hg
         obtain ⟨hpd, h⟩ := h
         obtain ⟨st', e1, e2⟩ := onSt_spec h
         refine go (.tup []) st' (some st.ob) [] e1 e2 (fun _ => ⟨by omega, rfl⟩) (fun e => by cases e) (fun x hx => by cases hx) (fun _ _ => hic) fun ob2 h2 _ => ?_
         have := h2 st.ob rfl
         subst this
         exact ⟨hpd, fun _ => .inr ⟨hg, rfl, rfl⟩, fun hne => absurd hic hne⟩
       rename_i ob1 v p hg hcall
       obtain ⟨hp, hpd, h⟩ := h
       obtain ⟨st', e1, e2⟩ := onSt_spec h
       refine go v st' (some ob1) [] e1 e2 (fun _ => ⟨by omega, rfl⟩) (fun e => by cases e) (fun x hx => by cases hx) (fun _ _ => hic) fun ob2 h2 _ => ?_
       have := h2 ob1 rfl
       subst this
       exact ⟨hpd, fun _ => .inl ⟨hg, p, hcall, hp⟩, fun hne => absurd hic hne⟩
     · rename_i hic
       have hic : i ≠ c := fun e => by subst e; simp at hic
       split at h <;> try (exact h.elim)
       · rename_i hg
         obtain ⟨st', e1, e2⟩ := onSt_spec h
         refine go (.tup []) st' aft pend e1 e2 (fun hx => ⟨by have := hc1 hx; omega, (hc1 hx).2⟩) (fun hx => by have := hc2 hx; omega) (fun x hx => hx) (fun h1 h2 => absurd h1 h2) fun ob1 _ hpd => ⟨hpd, fun e => absurd e hic, fun _ => ⟨fun _ => ⟨.inl ⟨hg, rfl⟩, okV_none rfl fun _ => rfl⟩, fun _ => .inl ⟨hg, rfl⟩⟩⟩
       · rename_i hg
         split at h <;> try (exact h.elim)
         rename_i v p he
         obtain ⟨hp, hcond, h2⟩ := h
         -- one value
         have key : ∀ (v1 : AV) (st' : St), st.putB o.dst v1 = some st' → (okV X st.ob v = true → okV X st.ob v1 = true) → (∀ E I F w u, TR E I F w v u → TR E I F w v1 u) → run X H R n st' (.hc all (i + 1) l m c aft (pendAdd aft all c i o st.tm v pend) :: k) → HcEx X H R all m c k (o :: l) i (n + 1) st aft pend := fun v1 st' e1 hun hT e2 => by
           refine go v1 st' aft (pendAdd aft all c i o st.tm v pend) e1 e2 (fun hx => ?_) (fun hx => by have := hc2 hx; omega) (fun x hx => hx) (fun h1 h2 => absurd h1 h2) fun ob1 hob1 hpd => ?_
           · have := hc1 hx
             obtain ⟨x, rfl⟩ := hx
             exact ⟨by omega, by simp only [pendAdd]; exact this.2⟩
           · cases haft : aft with
             | none =>
               subst haft
               simp only at hcond he
               have hbase : PureOk X all o st.tm st.ob v1 := .inr ⟨hg, _, _, he, hp, hT⟩
               unfold pendAdd at hpd
               split at hpd
               · exact ⟨hpd.2, fun e => absurd e hic, fun _ => ⟨fun _ => ⟨hbase, hun hcond⟩, fun _ => samePure_ok hpd.1 hg hT⟩⟩
               · rename_i hx
                 refine ⟨hpd, fun e => absurd e hic, fun _ => ⟨fun _ => ⟨hbase, hun hcond⟩, fun hna => absurd (ancB_spec ?_) hna⟩⟩
                 cases hb : ancB all c i with
                 | true => rfl
                 | false => exact absurd hb (by intro hb; exact hx rfl hb)
             | some x =>
               subst haft
               have hx := hob1 x rfl
               subst hx
               have hpend : pend = [] := (hc1 ⟨_, rfl⟩).2
               simp only at he
               have haf : PureOk X all o st.tm ob1 v1 := .inr ⟨hg, _, _, he, hp, hT⟩
               refine ⟨by rw [hpend]; trivial, fun e => absurd e hic, fun _ => ⟨fun hna => ?_, fun _ => haf⟩⟩
               cases hb : ancB all i c with
               | true => exact absurd (ancB_spec hb) hna
               | false =>
                 rw [hb] at hcond
                 simp only at hcond
                 exact ⟨samePure_ok hcond.1 hg hT, hun hcond.2⟩
         split at h2
         · rename_i q d _
           by_cases hq : q
           · obtain ⟨st', g1, g2⟩ := onSt_spec (h2.1 hq)
             exact key .tt st' g1 (fun _ => okV_none rfl fun _ => rfl) (fun E I F w u hu => TR.tt_of hq hu) g2
           · obtain ⟨st', g1, g2⟩ := onSt_spec (h2.2 hq)
             exact key .ff st' g1 (fun _ => okV_none rfl fun _ => rfl) (fun E I F w u hu => TR.ff_of hq hu) g2
         · rename_i b _
           cases b with
           | true =>
             obtain ⟨st', g1, g2⟩ := onSt_spec (h2.1 rfl)
             exact key .tt st' g1 (fun _ => okV_none rfl fun _ => rfl) (fun E I F w u hu => TR.b_of hu) g2
           | false =>
             obtain ⟨st', g1, g2⟩ := onSt_spec (h2.2 rfl)
             exact key .ff st' g1 (fun _ => okV_none rfl fun _ => rfl) (fun E I F w u hu => TR.b_of hu) g2
         · obtain ⟨st', g1, g2⟩ := onSt_spec h2
           exact key _ st' g1 (fun h => h) (fun E I F w u hu => hu) g2
/-- The machine says the truth. -/
theorem run_sound {ro : Option Nat} (hX : X.Ok) (hG : G.gl = X.gl) (hm : G.m0 = X.m0) (hro : ro = X.ro.map G.E0.β) {H : Nat → Option Hint} {R : Exit → St → Prop} : ∀ (n : Nat) (st : St) (k : List It), run X H R n st k → ∀ E F a w, Rel G E F st a w →
   SemK ro X.P (fun e a w => ∃ E F st, Rel G E F st a w ∧ R e st) (fun J a w => ∃ E F st, Rel G E F st a w ∧ J st) k .normal a w := by
 intro n
 induction n using Nat.strongRecOn with
 | _ n0 ih0 =>
  match n0, ih0 with
  | 0, _ => intro st k h; simp only [run] at h
  | n + 1, ih0 =>
   have ih := ih0 n (Nat.lt_succ_self n)
   intro st k h E F a w hr
   match k with
   | .hd _ _ _ _ :: k => trivial
   | .hn _ _ _ _ _ _ :: k => trivial
   | .hc _ _ _ _ _ _ _ :: k => trivial
   | [] => exact ⟨E, F, st, hr, by simpa only [run] using h⟩
   | .blk id :: k => exact ih st k (by simpa only [run] using h) E F a w hr
   | .scp :: k => exact ih st k (by simpa only [run] using h) E F a w hr
   | .inv J :: k => exact ⟨E, F, st, hr, by simpa only [run] using h⟩
   | .beg :: k =>
     simp only [run] at h
     split at h <;> try (exact h.elim)
     rename_i q hq
     split at h <;> try (exact h.elim)
     rename_i C j c hlt hob
     intro l hl
     have hq0 : q < G.m0 := by rw [hm]; simpa using hlt
     obtain ⟨r, vs, q1, ⟨q2, q3, q4⟩, q5, q6⟩ := hr.obs _ _ hob
     have hst := (hr.stay q ⟨0, .cell⟩ hq0 (by simp [St.inf, hob, Ob.inf]) rfl).1
     have hle : l = E.β q := by
       rw [hro, hq] at hl
       simp only [Option.map_some] at hl
       injection hl with hl
       rw [hst, hl]
     have hlv : st.live q := by simp [St.live, St.inf, hob, Ob.inf]
     have hsz := (hr.apart q hlv).2
     have hF' : ∀ b, F b → F b ∧ (w.putObj (E.β q) (.loop { r with state := .busy })).heap[b]? = w.heap[b]? := fun b hb => ⟨hb, World.putObj_heap_other fun e => (hr.apart q hlv).1 (e ▸ hb)⟩
     refine ⟨_, by rw [hle]; exact run_beginRound q1 q3, ?_⟩
     refine ih _ _ h E F a _ (hr.updOb (n := q) hob rfl rfl rfl rfl rfl World.putObj_size (fun b hb => World.putObj_heap_other hb) ?_)
     exact ⟨{ r with state := .busy }, vs, World.putObj_heap_same hsz, ⟨q2, rfl, q4⟩, q5, CR.mono hF' (fun q v _ => Ag.refl _ _ _ v) q6⟩
   | .ops all i [] :: k => exact ih st k (by simpa only [run] using h) E F a w hr
   | .ops all i (o :: l) :: k =>
     simp only [run] at h
     show wpLs ro X.P all _ (o :: l) a w
     simp only [wpLs]
     split at h <;> try (exact h.elim)
     · rename_i hg
       rw [if_pos (guardOf_wanted hr hg)]
       split at h <;> try (exact h.elim)
       rename_i st' p he
       refine run_effO hX hG hm hr he h.1 fun E' F' a' w' hr' => ?_
       have h2 := h.2
       have hd : ∀ t v, dstVal st' o = some (t, v) → st'.tm[t]? = some v := fun t v hd => by
         unfold dstVal at hd
         split at hd <;> try (cases hd; done)
         split at hd <;> try (cases hd; done)
         rename_i hv
         injection hd with hd; injection hd with h1 h2; subst h1 h2
         exact hv
       split at h2
       · rename_i t q d _ hdv
         by_cases hq : q
         · exact ih _ _ (h2.1 hq) _ _ _ _ (hr'.setTm (hd _ _ hdv) fun u hu => TR.tt_of hq hu)
         · exact ih _ _ (h2.2 hq) _ _ _ _ (hr'.setTm (hd _ _ hdv) fun u hu => TR.ff_of hq hu)
       · rename_i t b _ hdv
         cases b with
         | true => exact ih _ _ (h2.1 rfl) _ _ _ _ (hr'.setTm (hd _ _ hdv) fun u hu => TR.b_of hu)
         | false => exact ih _ _ (h2.2 rfl) _ _ _ _ (hr'.setTm (hd _ _ hdv) fun u hu => TR.b_of hu)
       · exact ih _ _ h2 _ _ _ _ hr'
     · rename_i hg
       rw [if_neg (by rw [guardOf_wanted hr hg]; simp)]
       split at h <;> try (exact h.elim)
       rename_i st' hp
       exact ih _ _ h _ _ _ _ (hr.putB (v := undef) hp (by simp only [TR]; exact ⟨[], rfl, by simp only [VRs]⟩))
   | .code c :: k =>
     show c.wpIn (Fw ro) 0 X.P _ a w
     simp only [run] at h
     split at h
     · exact wpIn_skip (ih _ _ h _ _ _ _ hr)
     · exact wpIn_label (ih _ _ h _ _ _ _ hr)
     · rename_i ops
       refine wpIn_region ?_
       rw [List.range_eq_range']
       exact wpOps_of ops.toList 0 a w (by simp) (ih _ _ h _ _ _ _ hr)
     · rename_i id ops
       split at h
       · split at h <;> try (exact h.elim)
         rename_i s1 hok _
         exact region_tree hX hG hm (drawOk_spec hok) h.1 (fun E F a w hr => ih _ _ h.2 _ _ _ _ hr) hr
       split at h <;> try (exact h.elim)
       rename_i hok
       have hd := drawOk_spec hok
       have hle := hd.le
       generalize headOf X id ops = m at *
       have hlen : (ops.toList.take m).length = m := by simp; omega
       split at h
       case h_1 =>
         rename_i c _
         split at h <;> try (exact h.elim)
         rename_i hu hcm
         obtain ⟨n', ob1, s, vals, g1, g2, g3, g4, g5, g6, g7, g8⟩ := hc_plan (ops.toList.take m) 0 n st none [] h (fun j hj => by
           rw [hlen] at hj
           rw [Nat.zero_add, ← Array.getElem?_toList, List.getElem?_take, if_pos hj]) (fun hx => by obtain ⟨x, hx⟩ := hx; cases hx) (fun _ => Nat.zero_le _)
         rw [hlen, Nat.zero_add] at g5 g8
         have hplan : PlanC X ops m c st ob1 s vals := by
           refine ⟨g2, by simpa using hcm, fun i hi => ?_, hu⟩
           obtain ⟨q0, o, q1, q2, q3⟩ := g7 i (Nat.zero_le _) (by rw [hlen]; omega)
           refine ⟨o, q1, q2, fun e => ?_, fun e => ?_⟩
           · have hms : maskO ops o (s i) = maskO ops o ⟨(s i).tm, st.ob⟩ := by simp only [maskO, q0]
             rw [hms]; exact q3.1 e
           · exact q3.2 e
         exact region_anyC (base := st) (s := s) (vals := vals) hX hG hm hd hplan (fun E F a w hr => ih0 n' (by omega) _ _ g8 E F a w hr) hr
       case h_3 =>
         split at h <;> try (exact h.elim)
         rename_i hu
         simp only [Bool.and_eq_true] at hu
         obtain ⟨n', e, s, vals, news, sto, g1, g2, g3, g3', gs, g4, g5⟩ := hn_plan (ops.toList.take m) 0 n st [] [] rfl h (fun j hj => by
           rw [hlen] at hj
           rw [Nat.zero_add, ← Array.getElem?_toList, List.getElem?_take, if_pos hj])
         rw [hlen, Nat.zero_add] at g3 g5
         have hcr : ∀ j, crN [] 0 news j = (news j).getD .gone := fun j => by
           unfold crN
           rw [show Nat.blt j 0 = false by cases hb : Nat.blt j 0 with
             | false => rfl
             | true => simp at hb]
         have hsome : ∀ j, crN [] 0 news j ≠ .gone → news j = some (crN [] 0 news j) := fun j hj => by
           rw [hcr] at hj ⊢
           cases hn : news j with
           | none => rw [hn] at hj; exact absurd rfl hj
           | some ob => rfl
         have hsn : ∀ j c x, sto j = some (c, x) → (news j).isSome = true := fun j c x hs => by
           obtain ⟨_, q2, _⟩ := gs j c x hs
           obtain ⟨_, o, _, _, q3⟩ := g4 c (Nat.zero_le _) q2
           rcases q3 with ⟨q3, _⟩ | ⟨q3, _⟩ | ⟨q3, _⟩ | ⟨_, _, _, _, j', y, r1, r2, r3, _⟩
           · exact absurd hs (q3 j x)
           · exact absurd hs (q3 j x)
           · exact absurd hs (q3 j x)
           · have := r2 j x hs
             subst this
             rw [hsome _ r3]; rfl
         have hplan : PlanN X ops m st s vals news sto := by
           refine ⟨g2, fun i hi => ?_, fun i hi q hq hn => ?_, fun j c x hs => ?_, hu.1, hu.2⟩
           · obtain ⟨_, o, q1, q2, q3⟩ := g4 i (Nat.zero_le _) (by rw [hlen]; omega)
             refine ⟨o, q1, q2, ?_⟩
             rcases q3 with q3 | ⟨q0, q3, q4, v, p, q5, q6, q7, q8, q9⟩ | ⟨q0, q3, ob, v, p, q4, q5, q6, q7, q8, q9⟩ | ⟨q3, q4, q5, q6, j', x, r1, r2, r3, r4⟩
             · exact .inl q3
             · exact .inr (.inl ⟨q0, q3, q4, v, p, q5, q6, q7, q9⟩)
             · have hs := isNewPtr_spec q8
               refine .inr (.inr (.inl ⟨q0, q3, ob, v, p, q4, q5, q6, q7, hs.2.1 _ (Nat.le_add_right _ _), q9, hs.2.2, fun q _ hq => ?_⟩))
               cases hnm : v.names q with
               | false => rfl
               | true => exact absurd (hs.1 q hnm) hq
             · exact .inr (.inr (.inr ⟨q3, q4, q5, j', x, _, r1, r2, hsome _ r3, q6, r4⟩))
           · obtain ⟨_, o, q1, q2, q3⟩ := g4 i (Nat.zero_le _) (by rw [hlen]; omega)
             rcases q3 with ⟨_, _, q3, _⟩ | ⟨_, _, q4, v, p, q5, q6, q7, q8, q9⟩ | ⟨_, _, ob, v, p, q4, q5, q6, q7, q8, q9⟩ | ⟨_, _, _, q3, _⟩
             · rw [q3] at hn; simp [AV.names, AV.namesL] at hn
             · have := AV.under_names q8 hn; omega
             · rw [q7] at hn
               exact ⟨(isNewPtr_spec q8).1 q hn, by rw [q6]; rfl⟩
             · rw [q3] at hn; simp [AV.names] at hn
           · obtain ⟨_, q2, q3, q4, _⟩ := gs j c x hs
             rw [hlen] at q2
             exact ⟨by omega, q3, q4⟩
         refine region_anyN (base := st) (s := s) (vals := vals) (news := news) (sto := sto) hX hG hd hplan (fun E F a w hr => ?_) hr
         have hob : obAt st.ob m news sto (fun _ => true) = e.ob ++ (List.range m).map (finN [] 0 news sto) := by
           rw [g3']
           unfold obAt
           congr 1
           apply List.map_congr_left
           intro j _
           unfold newAt finN
           rw [hcr]
           cases hn : news j with
           | none =>
             cases hs : sto j with
             | none => rfl
             | some q => have := hsn j q.1 q.2 hs; rw [hn] at this; cases this
           | some ob =>
             cases hs : sto j with
             | none => rfl
             | some q => rfl
         rw [g3, hob] at hr
         exact ih0 n' (by omega) _ _ g5 E F a w hr
       obtain ⟨n', e, s, vals, g1, g2, g3, g4, g5⟩ := hd_plan (ops.toList.take m) 0 n st h (fun j hj => by
         rw [hlen] at hj
         rw [Nat.zero_add, ← Array.getElem?_toList, List.getElem?_take, if_pos hj])
       rw [hlen, Nat.zero_add] at g3
       refine region_any (base := st) (e := e) (s := s) (vals := vals) hX hG hd ⟨g2, g3, fun i hi => g4 i (Nat.zero_le _) (by rw [hlen]; omega)⟩ (fun E F a w hr => ?_) hr
       exact ih0 n' (by omega) _ _ g5 E F a w hr
     · exact wpIn_seq (ih _ _ h _ _ _ _ hr)
     · rename_i c x y
       have href : ∀ (v v' : AV), evalA X.gl st c = some v → (∀ u, TR E st.inf F w v u → TR E st.inf F w v' u) → Rel G E F (refine1 st c v') a w := fun v v' hv hvv => by
         unfold refine1
         split
         · rename_i t
           simp only [evalA] at hv
           split at hv <;> try (cases hv; done)
           rename_i y hy
           have : y = v := by unfold undead at hv; split at hv <;> first | (cases hv; done) | (injection hv)
           subst this
           exact hr.setTm hy hvv
         · exact hr
       split at h <;> try (exact h.elim)
       · rename_i hv
         rw [← hG] at hv
         exact wpIn_cond_true (TR.bool_val rfl (hr.eval hv)) (ih _ _ h _ _ _ _ hr)
       · rename_i hv
         rw [← hG] at hv
         exact wpIn_cond_false (TR.bool_val rfl (hr.eval hv)) (ih _ _ h _ _ _ _ hr)
       · rename_i q d hv
         have hv' := hv
         rw [← hG] at hv
         by_cases hq : q
         · exact wpIn_cond_true (TR.bool_val (b := true) rfl (TR.tt_of hq (hr.eval hv))) (ih _ _ (h.1 hq) _ _ _ _ (href _ _ hv' fun u hu => TR.tt_of hq hu))
         · exact wpIn_cond_false (TR.bool_val (b := false) rfl (TR.ff_of hq (hr.eval hv))) (ih _ _ (h.2 hq) _ _ _ _ (href _ _ hv' fun u hu => TR.ff_of hq hu))
       · rename_i b hv
         have hv' := hv
         rw [← hG] at hv
         cases b with
         | true => exact wpIn_cond_true (TR.bool_val (x := .bool true) rfl (hr.eval hv)) (ih _ _ (h.1 rfl) _ _ _ _ (href _ _ hv' fun u hu => TR.b_of hu))
         | false => exact wpIn_cond_false (TR.bool_val (x := .bool false) rfl (hr.eval hv)) (ih _ _ (h.2 rfl) _ _ _ _ (href _ _ hv' fun u hu => TR.b_of hu))
     · rename_i id b
       split at h <;> try (exact h.elim)
       rename_i hh _
       obtain ⟨h1, h2, h3⟩ := h
       refine wpIn_block (wpIn_mono (h1 ro G hG hm hro E F st a w hr h2) ?_)
       intro e a' w' he
       cases e with
       | exit id' =>
         obtain ⟨x, x1, x2, y, E', F', x3, x4⟩ := he
         have hx := allEx_mem h3 x1
         simp only [Exit.inBlock]
         split at hx
         · rename_i hb
           have hb := Nat.eq_of_beq_eq_true hb
           rw [if_pos (by rw [← x2, hb])]
           exact ih _ _ (hx y x3) _ _ _ _ x4
         · rename_i hb hk
           rw [if_neg (fun e => by rw [x2, e] at hb; simp at hb)]
           rw [x2] at hk
           exact SemK.exit hk (ih _ _ (hx y x3) _ _ _ _ x4)
         · rename_i hb hk
           rw [if_neg (fun e => by rw [x2, e] at hb; simp at hb)]
           rw [x2] at hk
           exact SemK.out ⟨E', F', _, x4, by rw [← x2]; exact hx y x3⟩ hk
       | ret => exact SemK.ret he k
       | normal => exact he.elim
       | goto l => exact he.elim
       | panic ch => exact he.elim
       | outgrown => exact he.elim
     · exact wpIn_block (ih _ _ h _ _ _ _ hr)
     · refine wpIn_exit ?_
       split at h
       · rename_i hk
         exact SemK.exit hk (ih _ _ h _ _ _ _ hr)
       · rename_i hk
         exact SemK.out ⟨E, F, st, hr, h⟩ hk
     · exact wpIn_ret (SemK.ret ⟨E, F, st, hr, h⟩ k)
     · exact wpIn_scope (ih _ _ h _ _ _ _ hr)
     · split at h <;> try (exact h.elim)
       rename_i st' p j he
       obtain ⟨hp, h1, h2, h3⟩ := h
       refine run_rfA hX hG hm hro hr he hp fun E' F' a' w' hr' => ?_
       rcases inJ_cases h2 h3 with rfl | ⟨x, rfl, h4⟩
       · exact ih _ _ (h1 rfl) _ _ _ _ hr'
       · exact ih _ _ (h4 rfl) _ _ _ _ hr'
     · exact h.elim
end
end Go.Am

/- The abstract machine, part 25: loops. -/
namespace Go.Am
open Go
/-- The plain form of a state says what is asked, for some x. -/
def chk (m0 : Nat) (live : List Nat) {τ : Type} (post : τ → Prop) (stE : τ → St) (st : St) : Prop :=
 match norm m0 live st with
 | some st' => ∃ y, post y ∧ St.ge m0 (stE y) st'
 | none => False
def hasEx (id : Nat) : List (List Nat × Ex) → Bool
 | [] => false
 | e :: l => Nat.beq e.2.id id || hasEx id l
def exR (m0 : Nat) : List (List Nat × Ex) → Nat → St → Prop
 | [], _, _ => False
 | e :: l, id, st => (match Nat.beq e.2.id id with
   | true => (match hasEx id l with
     | true => chk m0 e.1 e.2.post e.2.st st ∨ exR m0 l id st
     | false => chk m0 e.1 e.2.post e.2.st st)
   | false => exR m0 l id st)
/-- Families of states at a loop's head. -/
structure Fam where
 τ : Type
 post : τ → Prop
 st : τ → St
 μ : τ → Nat
 H : τ → Nat → Option Hint := fun _ _ => none
def chks (m0 : Nat) (live : List Nat) : List Fam → St → Prop
 | [], _ => False
 | f :: l, st => (match l with
   | [] => chk m0 live f.post f.st st
   | l => chk m0 live f.post f.st st ∨ chks m0 live l st)
def chkm (m0 : Nat) (live : List Nat) (m : Nat) : List Fam → St → Prop
 | [], _ => False
 | f :: l, st => (match l with
   | [] => chk m0 live (fun y => f.post y ∧ f.μ y < m) f.st st
   | l => chk m0 live (fun y => f.post y ∧ f.μ y < m) f.st st ∨ chkm m0 live m l st)
def allF (p : Fam → Prop) : List Fam → Prop
 | [] => True
 | f :: l => p f ∧ allF p l
def bodyR (m0 : Nat) (exits : List (List Nat × Ex)) (R : Exit → St → Prop) : Exit → St → Prop
 | .exit id, st => exR m0 exits id st
 | .ret, st => R .ret st
 | _, _ => False
def Sat (X : Cy) (R : Exit → St → Prop) (st : St) (k : List It) : Prop :=
 ∀ ro G, G.gl = X.gl → G.m0 = X.m0 → ro = X.ro.map G.E0.β → ∀ E F a w, Rel G E F st a w →
   SemK ro X.P (fun e a w => ∃ E F st, Rel G E F st a w ∧ R e st) (fun J a w => ∃ E F st, Rel G E F st a w ∧ J st) k .normal a w
theorem Sat.of_run {X : Cy} (hX : X.Ok) {H : Nat → Option Hint} {R : Exit → St → Prop} {n : Nat} {st : St} {k : List It} (h : run X H R n st k) : Sat X R st k :=
 fun _ _ hG hm hro E F a w hr => run_sound hX hG hm hro n st k h E F a w hr
section
variable {P : Program} {R : Exit → Act → World → Prop} {IV : (St → Prop) → Act → World → Prop} {ro : Option Nat}
/-- Code, ends of blocks, and no more. -/
def codeK : List It → Bool
 | [] => true
 | .code _ :: k => codeK k
 | .blk _ :: k => codeK k
 | .scp :: k => codeK k
 | _ => false
theorem SemK.cut {R2 : Exit → Act → World → Prop} {k2 : List It} (h : ∀ e a w, R2 e a w → SemK ro P R IV k2 e a w) : ∀ {k1 : List It}, codeK k1 = true → ∀ e a w, SemK ro P R2 IV k1 e a w → SemK ro P R IV (k1 ++ k2) e a w
 | [], _, e, a, w, hs => h e a w hs
 | .code c :: k, hk, e, a, w, hs => by
   have ih := SemK.cut h (k1 := k) hk
   cases e with
   | normal => exact wpIn_mono (show c.wpIn _ _ _ _ a w from hs) ih
   | _ => exact ih _ a w hs
 | .blk id :: k, hk, e, a, w, hs => by
   have ih := SemK.cut h (k1 := k) hk
   cases e with
   | exit id' =>
     simp only [SemK, Exit.inBlock, List.cons_append] at hs ⊢
     split at hs
     · rename_i he; rw [if_pos he]; exact ih _ a w hs
     · rename_i he; rw [if_neg he]; exact ih _ a w hs
   | _ => exact ih _ a w hs
 | .scp :: k, hk, e, a, w, hs => by
   have ih := SemK.cut h (k1 := k) hk
   cases e with
   | goto l => exact hs.elim
   | _ => exact ih _ a w hs
 | .inv _ :: _, hk, _, _, _, _ => by cases hk
 | .beg :: _, hk, _, _, _, _ => by cases hk
 | .ops _ _ _ :: _, hk, _, _, _, _ => by cases hk
 | .hd _ _ _ _ :: _, hk, _, _, _, _ => by cases hk
 | .hn _ _ _ _ _ _ :: _, hk, _, _, _, _ => by cases hk
 | .hc _ _ _ _ _ _ _ :: _, hk, _, _, _, _ => by cases hk
end
theorem least {p : Nat → Prop} (h : ∃ n, p n) : ∃ n, p n ∧ ∀ m, p m → n ≤ m := by
 obtain ⟨n, hn⟩ := h
 induction n using Nat.strongRecOn with
 | _ n ih =>
   by_cases hm : ∃ m, m < n ∧ p m
   · obtain ⟨m, h1, h2⟩ := hm
     exact ih m h1 h2
   · exact ⟨n, hn, fun m hp => Nat.le_of_not_lt fun hlt => hm ⟨m, hlt, hp⟩⟩
open Classical in
noncomputable def leastOf (p : Nat → Prop) : Nat := if h : ∃ n, p n then Classical.choose (least h) else 0
theorem leastOf_spec {p : Nat → Prop} (h : ∃ n, p n) : p (leastOf p) ∧ ∀ m, p m → leastOf p ≤ m := by
 unfold leastOf
 rw [dif_pos h]
 exact Classical.choose_spec (least h)
section
variable {X : Cy} {G : En} {E : Env} {F : Nat → Prop} {st : St} {a : Act} {w : World}
theorem Rel.chk (h : Rel G E F st a w) {live : List Nat} {τ : Type} {post : τ → Prop} {stE : τ → St} (hc : chk G.m0 live post stE st) : ∃ y E', post y ∧ Rel G E' F (stE y) a w := by
 unfold Am.chk at hc
 split at hc <;> try (exact hc.elim)
 rename_i st' hn
 obtain ⟨y, h1, h2⟩ := hc
 obtain ⟨E', h3⟩ := h.norm hn
 exact ⟨y, E', h1, h3.weaken h2⟩
theorem Rel.exR (h : Rel G E F st a w) : ∀ {l : List (List Nat × Ex)} {id : Nat}, exR G.m0 l id st → ∃ x, x ∈ l.map (·.2) ∧ x.id = id ∧ ∃ y E F, x.post y ∧ Rel G E F (x.st y) a w
 | [], _, he => he.elim
 | e :: l, id, he => by
   unfold Am.exR at he
   split at he
   · rename_i hb
     split at he
     · rcases he with he | he
       · obtain ⟨y, E', h1, h2⟩ := h.chk he
         exact ⟨e.2, by simp, Nat.eq_of_beq_eq_true hb, y, E', F, h1, h2⟩
       · obtain ⟨x, h1, h2⟩ := Rel.exR h (l := l) he
         exact ⟨x, by simp at h1 ⊢; exact .inr h1, h2⟩
     · obtain ⟨y, E', h1, h2⟩ := h.chk he
       exact ⟨e.2, by simp, Nat.eq_of_beq_eq_true hb, y, E', F, h1, h2⟩
   · obtain ⟨x, h1, h2⟩ := Rel.exR h (l := l) he
     exact ⟨x, by simp at h1 ⊢; exact .inr h1, h2⟩
theorem allF_mem {p : Fam → Prop} : ∀ {l : List Fam} {f : Fam}, allF p l → f ∈ l → p f
 | g :: l, f, h, hf => by
   cases hf with
   | head => exact h.1
   | tail _ hf => exact allF_mem h.2 hf
theorem Rel.chks (h : Rel G E F st a w) {live : List Nat} : ∀ {l : List Fam}, chks G.m0 live l st → ∃ f, f ∈ l ∧ ∃ y E', f.post y ∧ Rel G E' F (f.st y) a w
 | [], hc => hc.elim
 | [f], hc => by
   obtain ⟨y, E', h1, h2⟩ := h.chk (show Am.chk _ _ _ _ _ from hc)
   exact ⟨f, .head _, y, E', h1, h2⟩
 | f :: g :: l, hc => by
   rcases (show Am.chk _ _ _ _ _ ∨ Am.chks _ _ (g :: l) _ from hc) with hc | hc
   · obtain ⟨y, E', h1, h2⟩ := h.chk hc
     exact ⟨f, .head _, y, E', h1, h2⟩
   · obtain ⟨f', h0, h1⟩ := Rel.chks h (l := g :: l) hc
     exact ⟨f', .tail _ h0, h1⟩
theorem Rel.chkm (h : Rel G E F st a w) {live : List Nat} {m : Nat} : ∀ {l : List Fam}, chkm G.m0 live m l st → ∃ f, f ∈ l ∧ ∃ y E', (f.post y ∧ f.μ y < m) ∧ Rel G E' F (f.st y) a w
 | [], hc => hc.elim
 | [f], hc => by
   obtain ⟨y, E', h1, h2⟩ := h.chk (show Am.chk _ _ _ _ _ from hc)
   exact ⟨f, .head _, y, E', h1, h2⟩
 | f :: g :: l, hc => by
   rcases (show Am.chk _ _ _ _ _ ∨ Am.chkm _ _ _ (g :: l) _ from hc) with hc | hc
   · obtain ⟨y, E', h1, h2⟩ := h.chk hc
     exact ⟨f, .head _, y, E', h1, h2⟩
   · obtain ⟨f', h0, h1⟩ := Rel.chkm h (l := g :: l) hc
     exact ⟨f', .tail _ h0, h1⟩
end
/-- What the first part of some code is to leave to the rest. -/
def cutR (X : Cy) (H : Nat → Option Hint) (R : Exit → St → Prop) (n : Nat) (live : List Nat) (fams : List Fam) (k2 : List It) : Exit → St → Prop
 | .normal, st => chks X.m0 live fams st
 | .exit id, st => (match exitK id k2 with
   | some k => run X H R n st k
   | none => R (.exit id) st)
 | .ret, st => R .ret st
 | _, _ => False
theorem Sat.cut {X : Cy} (hX : X.Ok) {R : Exit → St → Prop} {st : St} {k : List It} (p : Nat) {H : Nat → Option Hint} (live : List Nat) (fams : List Fam) (n : Nat)
   (hk : codeK (k.take p) = true) (h1 : run X H (cutR X H R n live fams (k.drop p)) n st (k.take p)) (h2 : allF (fun f => ∀ x, f.post x → Sat X R (f.st x) (k.drop p)) fams) : Sat X R st k := by
 intro ro G hG hm hro E F a w hr
 have hs := run_sound (ro := ro) hX hG hm hro n st _ h1 E F a w hr
 have := SemK.cut (k2 := k.drop p) (R := fun e a w => ∃ E F st, Rel G E F st a w ∧ R e st) (IV := fun J a w => ∃ E F st, Rel G E F st a w ∧ J st) ?_ hk _ a w hs
 · rw [List.take_append_drop] at this; exact this
 rintro e a w ⟨E, F, st, hr, h⟩
 cases e with
 | normal =>
   rw [cutR, ← hm] at h
   obtain ⟨f, hf, y, E', h3, h4⟩ := hr.chks h
   exact allF_mem h2 hf y h3 ro G hG hm hro E' F a w h4
 | exit id =>
   rw [cutR] at h
   split at h
   · rename_i k3 hk3
     exact SemK.exit hk3 (run_sound hX hG hm hro n st _ h E F a w hr)
   · rename_i hk3
     exact SemK.out ⟨E, F, st, hr, h⟩ hk3
 | ret => exact SemK.ret ⟨E, F, st, hr, h⟩ _
 | _ => exact h.elim
section
variable {X : Cy} {G : En} {E : Env} {F : Nat → Prop} {st : St} {a : Act} {w : World}
/-- A loop, at whose head the state is of one of several families. -/
theorem loop_famsS {b : Code} (live : List Nat) (fams : List Fam) (exits : List (List Nat × Ex)) {R : Exit → St → Prop}
   (hbody : allF (fun f => ∀ x, f.post x → Sat X (bodyR X.m0 exits R) (f.st x) [.code b, .inv (chkm X.m0 live (f.μ x) fams)]) fams) :
   LoopOK X b ⟨chks X.m0 live fams, exits.map (·.2)⟩ R := by
 intro ro G hG hm hro E F st a w hr hJ
 rw [← hm] at hJ
 obtain ⟨f, hf, x, E', hx, hr'⟩ := hr.chks hJ
 refine wpIn_loop (fun a w => ∃ f, f ∈ fams ∧ ∃ x E F, f.post x ∧ Rel G E F (f.st x) a w) (fun a w => leastOf fun n => ∃ f, f ∈ fams ∧ ∃ x E F, (f.post x ∧ Rel G E F (f.st x) a w) ∧ f.μ x = n) ⟨f, hf, x, E', F, hx, hr'⟩ ?_
 intro a w hI
 have hex : ∃ n, ∃ f, f ∈ fams ∧ ∃ x E F, (f.post x ∧ Rel G E F (f.st x) a w) ∧ f.μ x = n := by
   obtain ⟨f, hf, x, E, F, h⟩ := hI
   exact ⟨_, f, hf, x, E, F, h, rfl⟩
 obtain ⟨⟨f, hf, x, E, F, ⟨hx, hr⟩, hμ⟩, _⟩ := leastOf_spec hex
 have hs := allF_mem hbody hf x hx ro G hG hm hro E F a w hr
 refine wpIn_mono (show b.wpIn (Fw ro) 0 X.P _ a w from hs) ?_
 intro e a' w' he
 cases e with
 | normal =>
   obtain ⟨E1, F1, st1, h1, h2⟩ := he
   rw [← hm] at h2
   obtain ⟨f', hf', y, E2, ⟨h3, h3'⟩, h4⟩ := h1.chkm h2
   refine ⟨⟨f', hf', y, E2, F1, h3, h4⟩, ?_⟩
   refine Nat.lt_of_le_of_lt ((leastOf_spec ⟨_, f', hf', y, E2, F1, ⟨h3, h4⟩, rfl⟩).2 (f'.μ y) ⟨f', hf', y, E2, F1, ⟨h3, h4⟩, rfl⟩) ?_
   rw [← hμ]; exact h3'
 | exit id =>
   obtain ⟨E1, F1, st1, h1, h2⟩ := he
   simp only [bodyR, ← hm] at h2
   exact h1.exR h2
 | ret =>
   obtain ⟨E1, F1, st1, h1, h2⟩ := he
   exact ⟨E1, F1, st1, h1, h2⟩
 | goto l => obtain ⟨_, _, _, _, h2⟩ := he; exact h2.elim
 | panic ch => obtain ⟨_, _, _, _, h2⟩ := he; exact h2.elim
 | outgrown => obtain ⟨_, _, _, _, h2⟩ := he; exact h2.elim
end
theorem allF_mono {p q : Fam → Prop} (h : ∀ f, p f → q f) : ∀ {l : List Fam}, allF p l → allF q l
 | [], _ => trivial
 | f :: _, hl => ⟨h f hl.1, allF_mono h hl.2⟩
theorem loop_fams {X : Cy} (hX : X.Ok) {b : Code} (live : List Nat) (fams : List Fam) (exits : List (List Nat × Ex)) {R : Exit → St → Prop} (n : Nat)
   (hbody : allF (fun f => ∀ x, f.post x → run X (f.H x) (bodyR X.m0 exits R) n (f.st x) [.code b, .inv (chkm X.m0 live (f.μ x) fams)]) fams) :
   LoopOK X b ⟨chks X.m0 live fams, exits.map (·.2)⟩ R :=
 loop_famsS live fams exits (allF_mono (fun _ h x hx => .of_run hX (h x hx)) hbody)
theorem loop_ok {X : Cy} (hX : X.Ok) {α : Type} {b : Code} (live : List Nat) (Inv : α → Prop) (stI : α → St) (μ : α → Nat) (exits : List (List Nat × Ex)) {H : α → Nat → Option Hint} {R : Exit → St → Prop} (n : Nat)
   (hbody : ∀ x, Inv x → run X (H x) (bodyR X.m0 exits R) n (stI x) [.code b, .inv (chk X.m0 live (fun y => Inv y ∧ μ y < μ x) stI)]) :
   LoopOK X b ⟨chk X.m0 live Inv stI, exits.map (·.2)⟩ R :=
 loop_fams hX live [⟨α, Inv, stI, μ, H⟩] exits n ⟨hbody, trivial⟩
end Go.Am

/- The abstract machine, part 26: returns; a function. -/
namespace Go.Am
open Go
def Ty.flat : Ty → Bool
 | .int _ | .bool | .str => true
 | .sl _ => false
 | .ar _ e => e.flat
 | .a2 e => e.flat
 | .s1 a => a.flat
 | .s2 a b => a.flat && b.flat
 | .s3 a b c => a.flat && (b.flat && c.flat)
 | .s4 a b c d => a.flat && (b.flat && (c.flat && d.flat))
theorem CD.flat {F F' : Nat → Prop} {w w' : World} : ∀ {t : Ty} {x : t.D} {cs : List Value}, t.flat = true → CD F w t x cs → CD F' w' t x cs
 | .int _, _, _, _, h => by simpa only [CD] using h
 | .bool, _, _, _, h => by simpa only [CD] using h
 | .str, _, _, _, h => by simpa only [CD] using h
 | .sl e, _, _, hf, _ => by simp [Ty.flat] at hf
 | .ar n e, xs, cs, hf, h => by
   simp only [CD] at h ⊢
   obtain ⟨hl, css, hc, h1, h⟩ := h
   exact ⟨hl, css, hc, h1, fun i hi hi' => CD.flat (by simpa [Ty.flat] using hf) (h i hi hi')⟩
 | .a2 e, x, cs, hf, h => by
   simp only [CD] at h ⊢
   obtain ⟨c1, c2, h0, h1, h2⟩ := h
   exact ⟨c1, c2, h0, CD.flat (by simpa [Ty.flat] using hf) h1, CD.flat (by simpa [Ty.flat] using hf) h2⟩
 | .s1 a, x, cs, hf, h => by
   simp only [CD] at h ⊢
   exact CD.flat (by simpa [Ty.flat] using hf) h
 | .s2 a b, x, cs, hf, h => by
   simp only [CD] at h ⊢
   simp only [Ty.flat, Bool.and_eq_true] at hf
   obtain ⟨c1, c2, h0, h1, h2⟩ := h
   exact ⟨c1, c2, h0, CD.flat hf.1 h1, CD.flat hf.2 h2⟩
 | .s3 a b c, x, cs, hf, h => by
   simp only [CD] at h ⊢
   simp only [Ty.flat, Bool.and_eq_true] at hf
   obtain ⟨c1, c2, c3, h0, h1, h2, h3⟩ := h
   exact ⟨c1, c2, c3, h0, CD.flat hf.1 h1, CD.flat hf.2.1 h2, CD.flat hf.2.2 h3⟩
 | .s4 a b c d, x, cs, hf, h => by
   simp only [CD] at h ⊢
   simp only [Ty.flat, Bool.and_eq_true] at hf
   obtain ⟨c1, c2, c3, c4, h0, h1, h2, h3, h4⟩ := h
   exact ⟨c1, c2, c3, c4, h0, CD.flat hf.1 h1, CD.flat hf.2.1 h2, CD.flat hf.2.2.1 h3, CD.flat hf.2.2.2 h4⟩
mutual
def AV.flat : AV → Bool
 | .ar e _ _ => e.flat
 | .sl _ _ => false
 | .pt _ _ => false
 | .pv _ => false
 | .agg l => AV.flatL l
 | .clo _ l m => AV.flatL l && AV.flatL m
 | .tup _ => false
 | _ => true
def AV.flatL : List AV → Bool
 | [] => true
 | a :: l => a.flat && AV.flatL l
end
section
variable {E : Env} {I : Nat → Option Inf} {F F' : Nat → Prop} {w : World}
mutual
theorem CR.flat : ∀ {x : AV} {cs : List Value}, x.flat = true → CR E I F w x cs → CR E I F' w x cs
 | .int _ _, _, _, h | .bool _, _, _, h | .tt, _, _, h | .ff, _, _, h | .pb _ _, _, _, h | .str _, _, _, h | .own _ _, _, _, h | .sub _ _ _ _ _, _, _, h | .ptr _ _ _, _, _, h | .mp _, _, _, h | .yld _, _, _, h | .vv _, _, _, h => by simpa only [CR] using h
 | .ar e n xs, _, hf, h => by simp only [CR] at h ⊢; exact CD.flat (by simpa [AV.flat, Ty.flat] using hf) h
 | .sl _ _, _, hf, _ => by simp [AV.flat] at hf
 | .pt _ _, _, hf, _ => by simp [AV.flat] at hf
 | .pv _, _, hf, _ => by simp [AV.flat] at hf
 | .agg l, _, hf, h => by simp only [CR] at h ⊢; exact CRs.flat (by simpa [AV.flat] using hf) h
 | .clo f l m, _, hf, h => by
   simp only [AV.flat, Bool.and_eq_true] at hf
   simp only [CR] at h ⊢
   obtain ⟨vs, us, h1, h2, h3⟩ := h
   exact ⟨vs, us, h1, VRs.flat hf.1 h2, VRs.flat hf.2 h3⟩
 | .tup _, _, _, h => by simp only [CR] at h
 | .dead, _, _, h => by simp only [CR] at h
theorem CRs.flat : ∀ {l : List AV} {cs : List Value}, AV.flatL l = true → CRs E I F w l cs → CRs E I F' w l cs
 | [], _, _, h => by simpa only [CRs] using h
 | a :: l, _, hf, h => by
   simp only [AV.flatL, Bool.and_eq_true] at hf
   simp only [CRs] at h ⊢
   obtain ⟨c1, c2, h0, h1, h2⟩ := h
   exact ⟨c1, c2, h0, CR.flat hf.1 h1, CRs.flat hf.2 h2⟩
theorem VRs.flat : ∀ {l : List AV} {vs : List Value}, AV.flatL l = true → VRs E I F w l vs → VRs E I F' w l vs
 | [], _, _, h => by simpa only [VRs] using h
 | a :: l, _, hf, h => by
   simp only [AV.flatL, Bool.and_eq_true] at hf
   simp only [VRs] at h ⊢
   obtain ⟨v, us, h0, h1, h2, h3⟩ := h
   exact ⟨v, us, h0, CR.flat hf.1 h1, h2, VRs.flat hf.2 h3⟩
end
end
def Ob.flat : Ob → Bool
 | .bx c => c.flat
 | .sc _ _ e _ => e.flat
 | .mo k v _ => k.flat && v.flat
 | .lp _ _ _ c => c.flat
 | .gone => true
def Ob.flatL : List Ob → Bool
 | [] => true
 | a :: l => a.flat && Ob.flatL l
theorem AV.flatL_get : ∀ {l : List AV} {i : Nat} {x : AV}, AV.flatL l = true → l[i]? = some x → x.flat = true
 | [], i, x, _, h => by simp at h
 | a :: l, 0, x, h, hx => by simp at hx; subst hx; simp only [AV.flatL, Bool.and_eq_true] at h; exact h.1
 | a :: l, i + 1, x, h, hx => by simp only [AV.flatL, Bool.and_eq_true] at h; exact AV.flatL_get h.2 (by simpa using hx)
theorem Ob.flatL_get : ∀ {l : List Ob} {i : Nat} {x : Ob}, Ob.flatL l = true → l[i]? = some x → x.flat = true
 | [], i, x, _, h => by simp at h
 | a :: l, 0, x, h, hx => by simp at hx; subst hx; simp only [Ob.flatL, Bool.and_eq_true] at h; exact h.1
 | a :: l, i + 1, x, h, hx => by simp only [Ob.flatL, Bool.and_eq_true] at h; exact Ob.flatL_get h.2 (by simpa using hx)
theorem MR.flat {F F' : Nat → Prop} {w : World} {k v : Ty} (hk : k.flat = true) (hv : v.flat = true) : ∀ {m : List (k.D × v.D)} {es : List MapEntry}, MR F w k v m es → MR F' w k v m es
 | [], _, h => h
 | x :: m, es, h => by
   simp only [MR] at h ⊢
   obtain ⟨e, es', h0, h1, h2, h3, h4, h5⟩ := h
   exact ⟨e, es', h0, CD.flat hk h1, h2, CD.flat hv h3, h4, h5.flat hk hv⟩
section
variable {X : Cy} {G : En} {E : Env} {F : Nat → Prop} {st : St} {a : Act} {w : World}
theorem Rel.flat {w0 : World} {F0 : Nat → Prop} {E0 : Env} {m0 : Nat} {gl : Nat → Option ((t : Ty) × t.D)} (h : Rel ⟨w0, F0, E0, m0, gl⟩ E F st a w) (ht : AV.flatL st.tm = true) (ho : Ob.flatL st.ob = true)
   {Z : Nat → Prop} (hZ : ∀ b, Z b → b < w0.heap.size) (hZ0 : ∀ o, o < m0 → ¬ Z (E0.β o)) (hg : GlobOk gl Z w0) (hd : a.defers = []) : Rel ⟨w0, Z, E0, m0, gl⟩ E Z st a w := by
 refine { defers := by rw [hd]; trivial, size := h.size, tms := ?_, obs := ?_, apart := ?_, inj := h.inj, frz := fun b hb => Nat.lt_of_lt_of_le (hZ b hb) h.grow, new := fun b hb => .inl hb, own := h.own, os := h.os, tape := h.tape, output := h.output, grow := h.grow, frame := h.frame, glob := ?_, stay := h.stay, live0 := h.live0 }
 · intro i x hx
   have hT := h.tms i x hx
   have hf := AV.flatL_get ht hx
   cases x with
   | dead => trivial
   | tup _ => simp [AV.flat] at hf
   | _ => exact ⟨CR.flat hf hT.1, hT.2⟩
 · intro o x hx
   have hO := h.obs o x hx
   have hf := Ob.flatL_get ho hx
   cases x with
   | gone => trivial
   | bx c =>
     obtain ⟨cs, T, h1, h2⟩ := hO
     exact ⟨cs, T, h1, CR.flat hf h2⟩
   | lp C s j c =>
     obtain ⟨r, vs, h1, h2, h3, h4⟩ := hO
     exact ⟨r, vs, h1, h2, h3, CR.flat hf h4⟩
   | sc v te e xs =>
     obtain ⟨cs, h1, h2, h3, h4, h5, h6⟩ := hO
     exact ⟨cs, h1, h2, h3, h4, h5, CD.flat (by simpa [Ob.flat, Ty.flat] using hf) h6⟩
   | mo k v m =>
     simp only [Ob.flat, Bool.and_eq_true] at hf
     obtain ⟨es, cl, h1, h2⟩ := hO
     exact ⟨es, cl, h1, h2.flat hf.1 hf.2⟩
 · intro o ho'
   refine ⟨fun hb => ?_, (h.apart o ho').2⟩
   rcases h.own o ho' with g | ⟨g1, g2⟩
   · have := hZ _ hb
     exact absurd g (Nat.not_le.mpr this)
   · rw [g2] at hb; exact hZ0 o g1 hb
 · exact hg.mono fun b hb => ⟨hb, h.frame b (hZ b hb) fun o ho' e => hZ0 o ho' (e ▸ hb)⟩
def allVer0 : List Ob → Bool
 | [] => true
 | x :: l => Nat.beq x.cver 0 && allVer0 l
theorem allVer0_get : ∀ {l : List Ob} {i : Nat} {x : Ob}, allVer0 l = true → l[i]? = some x → x.cver = 0
 | [], i, x, _, h => by simp at h
 | a :: l, 0, x, h, hx => by simp at hx; subst hx; simp only [allVer0, Bool.and_eq_true] at h; exact Nat.eq_of_beq_eq_true h.1
 | a :: l, i + 1, x, h, hx => by simp only [allVer0, Bool.and_eq_true] at h; exact allVer0_get h.2 (by simpa using hx)
theorem upTo_length : ∀ n, (upTo n).length = n
 | 0 => rfl
 | n + 1 => by simp [upTo, upTo_length n]
theorem upTo_get : ∀ {n i : Nat}, i < n → (upTo n)[i]? = some i
 | n + 1, i, h => by
   simp only [upTo]
   by_cases e : i = n
   · subst e
     rw [List.getElem?_append_right (by rw [upTo_length]; omega), upTo_length]
     simp
   · rw [List.getElem?_append_left (by rw [upTo_length]; omega)]
     exact upTo_get (by omega)
theorem upTo_some {n i o : Nat} (h : (upTo n)[i]? = some o) : i = o ∧ i < n := by
 have hlt : i < n := by have := (List.getElem?_eq_some_iff.mp h).1; rwa [upTo_length] at this
 rw [upTo_get hlt] at h
 injection h with h
 exact ⟨h, hlt⟩
def viewSt (m0 : Nat) (st : St) : Option St :=
 match trL st (upTo m0) st.tm, trOs st (upTo m0) (upTo m0), allVer0 (st.ob.take m0), noTD st.tm, nodupB (upTo m0) with
 | some tm, some ob, true, true, true => some ⟨tm, ob⟩
 | _, _, _, _, _ => none
theorem Rel.view (h : Rel G E F st a w) {st' : St} (hv : viewSt G.m0 st = some st') : ∃ F', Rel G E F' st' a w := by
 unfold viewSt at hv
 split at hv <;> try (cases hv; done)
 rename_i tm ob ht ho hver htd hn
 injection hv with hv; subst hv
 obtain ⟨hlen, hget⟩ := trOs_get ho
 rw [upTo_length] at hlen
 have hidx : ∀ o i, idx o (upTo G.m0) = some i → o = i ∧ i < G.m0 := fun o i hi => by
   obtain ⟨h1, h2⟩ := upTo_some (idx_some hi)
   exact ⟨h1.symm, h2⟩
 have hidxn : ∀ o, idx o (upTo G.m0) = none → G.m0 ≤ o := fun o ho => by
   refine Nat.le_of_not_lt fun hlt => idx_none ho o (upTo_get hlt)
 let Fv : Nat → Prop := FV E F st (upTo G.m0) (st.tm ++ obAVs st (upTo G.m0))
 have hF : ∀ b, F b → Fv b := fun b hb => .inl hb
 have hE : ∀ o i, idx o (upTo G.m0) = some i → E.β i = E.β o ∧ E.cap i = E.cap o := fun o i hi => by rw [(hidx o i hi).1]; exact ⟨rfl, rfl⟩
 have hinf : ∀ i s, (St.inf ⟨tm, ob⟩) i = some s → i < G.m0 ∧ st.inf i = some s := fun i s hs => by
   simp only [St.inf] at hs
   cases hx : ob[i]? with
   | none => simp [hx] at hs
   | some x =>
     obtain ⟨o, h1, h2⟩ := hget i x hx
     obtain ⟨h1, h1'⟩ := upTo_some h1
     subst h1
     obtain ⟨y, v, s', h3, h4, h5⟩ := trO_inf h2
     simp only [hx, Option.bind_some] at hs
     rw [h5] at hs
     injection hs with hs; subst hs
     refine ⟨h1', ?_⟩
     have hc := allVer0_get hver (i := i) (x := y) (by rw [List.getElem?_take]; simp [h1', h3])
     have h4' := h4
     simp only [St.inf, h3, Option.bind_some] at h4
     have := Ob.inf_cver h4
     rw [h4']
     simp only at this
     rw [this, hc]
 have hI : ∀ o i s, idx o (upTo G.m0) = some i → (St.inf ⟨tm, ob⟩) i = some s → ∃ v, st.inf o = some ⟨v, s.sh⟩ := fun o i s hi hs => by
   obtain ⟨e, _⟩ := hidx o i hi
   subst e
   exact ⟨s.ver, (hinf _ s hs).2⟩
 have hnapp : ∀ (o : Nat) (l m : List AV), (AV.namesL o l = true ∨ AV.namesL o m = true) → AV.namesL o (l ++ m) = true := by
   intro o l m hh
   induction l with
   | nil => simpa [AV.namesL] using hh
   | cons x l ih =>
     simp only [AV.namesL, List.cons_append, Bool.or_eq_true] at hh ⊢
     rcases hh with (h1 | h1) | h1
     · exact .inl h1
     · exact .inr (ih (.inl h1))
     · exact .inr (ih (.inr h1))
 have hlv : ∀ i, (St.live ⟨tm, ob⟩) i → i < G.m0 ∧ st.live i := fun i hi => by
   obtain ⟨s, hs⟩ := Option.isSome_iff_exists.mp hi
   obtain ⟨h1, h2⟩ := hinf i s hs
   exact ⟨h1, by simp [St.live, h2]⟩
 have hvs : VRs E st.inf F w st.tm a.tmps.toList := by
   refine VRs.of_get (by simpa using h.size) htd fun i x hx => ?_
   have := h.tms i x hx
   simpa [Array.getD_eq_getD_getElem?, List.getD_eq_getElem?_getD] using this
 have hV := VRs.tr h hF hE hI ht (fun o h1 h2 h3 => .inr ⟨o, h2, h3, hnapp _ _ _ (.inl h1), rfl⟩) hvs
 refine ⟨Fv, { defers := h.defers.mono (fun b hb => ⟨.inl hb, rfl⟩), size := by rw [← Array.length_toList, hV.length], tms := ?_, obs := ?_, apart := ?_, inj := fun i j hi hj e => h.inj i j (hlv i hi).2 (hlv j hj).2 e, frz := ?_, new := ?_, own := fun i hi => h.own i (hlv i hi).2, os := h.os, tape := h.tape, output := h.output, grow := h.grow, frame := h.frame, glob := h.glob.mono fun b hb => ⟨.inl hb, rfl⟩, stay := fun i s hi hs h0 => h.stay i s hi (hinf i s hs).2 h0, live0 := ?_ }⟩
 · intro i x hx'
   have := VRs.atT hV i x hx'
   rw [Array.toArray_toList] at this
   exact TR.of_VR this.1 this.2
 · intro i x hx'
   obtain ⟨o, h1, h2⟩ := hget i x hx'
   have h1i := h1
   obtain ⟨h1, h1'⟩ := upTo_some h1
   subst h1
   unfold trO at h2
   split at h2
   · rename_i c hc
     split at h2 <;> try (cases h2; done)
     rename_i c' htc
     injection h2 with h2; subst h2
     obtain ⟨cs, T, g1, g2⟩ := h.obs _ _ hc
     exact ⟨cs, T, g1, CR.tr h hF hE hI htc (fun q q1 q2 q3 => .inr ⟨q, q2, q3, hnapp _ _ _ (.inr (obAVs_mem h1i hc q1)), rfl⟩) g2⟩
   · rename_i v te e zs hc
     injection h2 with h2; subst h2
     obtain ⟨cs, g1, g2, g3, g4, g5, g6⟩ := h.obs _ _ hc
     exact ⟨cs, g1, g2, g3, g4, g5, g6.mono fun b hb => ⟨hF b hb, rfl⟩⟩
   · rename_i k v m hc
     injection h2 with h2; subst h2
     obtain ⟨es, cl, g1, g2⟩ := h.obs _ _ hc
     exact ⟨es, cl, g1, g2.mono fun b hb => ⟨hF b hb, rfl⟩⟩
   · rename_i C s j c hc
     split at h2 <;> try (cases h2; done)
     rename_i c' htc
     injection h2 with h2; subst h2
     obtain ⟨r, vs', g1, g2, g3, g4⟩ := h.obs _ _ hc
     exact ⟨r, vs', g1, g2, g3, CR.tr h hF hE hI htc (fun q q1 q2 q3 => .inr ⟨q, q2, q3, hnapp _ _ _ (.inr (obAVs_mem' (.inr ⟨C, s, j, rfl⟩) h1i hc q1)), rfl⟩) g4⟩
   · cases h2
 · intro i hi
   obtain ⟨h1, h2⟩ := hlv i hi
   refine ⟨fun hb => ?_, (h.apart i h2).2⟩
   rcases hb with hb | ⟨q, q1, q2, _, q4⟩
   · exact (h.apart i h2).1 hb
   · have := h.inj q i q1 h2 q4
     subst this
     have := hidxn q q2
     omega
 · intro b hb
   rcases hb with hb | ⟨q, q1, _, _, q4⟩
   · exact h.frz b hb
   · rw [← q4]; exact (h.apart q q1).2
 · intro b hb
   rcases hb with hb | ⟨q, q1, q2, _, q4⟩
   · exact h.new b hb
   · have := hidxn q q2
     rcases h.own q q1 with g | ⟨g, _⟩
     · right; rw [← q4]; exact g
     · omega
 · intro i hi
   have hi' : i < ob.length := by omega
   have : ob[i]? = some ob[i] := by simp [hi']
   obtain ⟨o, h1, h2⟩ := hget i _ this
   obtain ⟨y, v, s', h3, h4, h5⟩ := trO_inf h2
   simp [St.live, St.inf, hi', h5]
end
end Go.Am

/- The abstract machine, part 26m: the marks of loops over functions, at a function's end. -/
namespace Go.Am
open Go
section
variable {F : Nat → Prop} {w w' : World}
theorem CellsAt.cells (hc : ∀ (x : Addr) (v : Value), w.cell? x = some v → w'.cell? x = some v) {a : Addr} {cs : List Value} (h : CellsAt w a cs) : CellsAt w' a cs := fun j hj => hc _ _ (h j hj)
theorem CD.cells (hc : ∀ (x : Addr) (v : Value), w.cell? x = some v → w'.cell? x = some v) : ∀ {t : Ty} {x : t.D} {cs : List Value}, CD F w t x cs → CD F w' t x cs
 | .int _, _, _, h => by simpa only [CD] using h
 | .bool, _, _, h => by simpa only [CD] using h
 | .str, _, _, h => by simpa only [CD] using h
 | .sl e, xs, cs, h => by
   simp only [CD] at h ⊢
   obtain ⟨A, c, h1, hm, h2⟩ := h
   refine ⟨A, c, h1, hm, fun i hi => ?_⟩
   obtain ⟨ad, ecs, ha, hf, hc', hat⟩ := h2 i hi
   exact ⟨ad, ecs, ha, hf, hc'.cells hc, hat.cells hc⟩
 | .ar n e, xs, cs, h => by
   simp only [CD] at h ⊢
   obtain ⟨hl, css, hc', h1, h⟩ := h
   exact ⟨hl, css, hc', h1, fun i hi hi' => (h i hi hi').cells hc⟩
 | .a2 e, x, cs, h => by
   simp only [CD] at h ⊢
   obtain ⟨c1, c2, h0, h1, h2⟩ := h
   exact ⟨c1, c2, h0, h1.cells hc, h2.cells hc⟩
 | .s1 a, x, cs, h => by
   simp only [CD] at h ⊢
   exact h.cells hc
 | .s2 a b, x, cs, h => by
   simp only [CD] at h ⊢
   obtain ⟨c1, c2, h0, h1, h2⟩ := h
   exact ⟨c1, c2, h0, h1.cells hc, h2.cells hc⟩
 | .s3 a b c, x, cs, h => by
   simp only [CD] at h ⊢
   obtain ⟨c1, c2, c3, h0, h1, h2, h3⟩ := h
   exact ⟨c1, c2, c3, h0, h1.cells hc, h2.cells hc, h3.cells hc⟩
 | .s4 a b c d, x, cs, h => by
   simp only [CD] at h ⊢
   obtain ⟨c1, c2, c3, c4, h0, h1, h2, h3, h4⟩ := h
   exact ⟨c1, c2, c3, c4, h0, h1.cells hc, h2.cells hc, h3.cells hc, h4.cells hc⟩
variable {E : Env} {I : Nat → Option Inf}
mutual
theorem CR.cells (hc : ∀ (x : Addr) (v : Value), w.cell? x = some v → w'.cell? x = some v) : ∀ {a : AV} {cs : List Value}, CR E I F w a cs → CR E I F w' a cs
 | .int _ _, _, h => by simpa only [CR] using h
 | .bool _, _, h => by simpa only [CR] using h
 | .tt, _, h => by simpa only [CR] using h
 | .ff, _, h => by simpa only [CR] using h
 | .pb _ _, _, h => by simpa only [CR] using h
 | .str _, _, h => by simpa only [CR] using h
 | .agg l, cs, h => by simp only [CR] at h ⊢; exact CRs.cells hc h
 | .ar e n xs, cs, h => by simp only [CR] at h ⊢; exact h.cells hc
 | .sl e xs, cs, h => by simp only [CR] at h ⊢; exact h.cells hc
 | .pt t x, cs, h => by
   simp only [CR] at h ⊢
   obtain ⟨ad, c, h1, h2, h3, h4⟩ := h
   exact ⟨ad, c, h1, h2, h3.cells hc, h4.cells hc⟩
 | .pv c, cs, h => by
   simp only [CR] at h ⊢
   obtain ⟨ad, cc, h1, h2, h3, h4⟩ := h
   exact ⟨ad, cc, h1, h2, CR.cells hc h3, h4.cells hc⟩
 | .own o ver, cs, h => by simpa only [CR] using h
 | .sub o ver p lo n, cs, h => by simpa only [CR] using h
 | .ptr o ver p, cs, h => by simpa only [CR] using h
 | .mp o, cs, h => by simpa only [CR] using h
 | .yld o, cs, h => by simpa only [CR] using h
 | .clo f l m, cs, h => by
   simp only [CR] at h ⊢
   obtain ⟨vs, us, h1, h2, h3⟩ := h
   exact ⟨vs, us, h1, VRs.cells hc h2, VRs.cells hc h3⟩
 | .vv _, _, h => by simpa only [CR] using h
 | .tup _, _, h => by simp only [CR] at h
 | .dead, _, h => by simp only [CR] at h
theorem CRs.cells (hc : ∀ (x : Addr) (v : Value), w.cell? x = some v → w'.cell? x = some v) : ∀ {l : List AV} {cs : List Value}, CRs E I F w l cs → CRs E I F w' l cs
 | [], _, h => by simpa only [CRs] using h
 | a :: l, cs, h => by
   simp only [CRs] at h ⊢
   obtain ⟨c1, c2, h0, h1, h2⟩ := h
   exact ⟨c1, c2, h0, CR.cells hc h1, CRs.cells hc h2⟩
theorem VRs.cells (hc : ∀ (x : Addr) (v : Value), w.cell? x = some v → w'.cell? x = some v) : ∀ {l : List AV} {vs : List Value}, VRs E I F w l vs → VRs E I F w' l vs
 | [], _, h => by simpa only [VRs] using h
 | a :: l, vs, h => by
   simp only [VRs] at h ⊢
   obtain ⟨v, us, h0, h1, h2, h3⟩ := h
   exact ⟨v, us, h0, CR.cells hc h1, h2, VRs.cells hc h3⟩
end
theorem TR.cells (hc : ∀ (x : Addr) (v : Value), w.cell? x = some v → w'.cell? x = some v) {a : AV} {v : Value} (h : TR E I F w a v) : TR E I F w' a v := by
 cases a with
 | dead => trivial
 | tup l =>
   simp only [TR] at h ⊢
   obtain ⟨vs, h1, h2⟩ := h
   exact ⟨vs, h1, VRs.cells hc h2⟩
 | _ => exact ⟨CR.cells hc h.1, h.2⟩
theorem MR.cells (hc : ∀ (x : Addr) (v : Value), w.cell? x = some v → w'.cell? x = some v) {k v : Ty} : ∀ {m : List (k.D × v.D)} {es : List MapEntry}, MR F w k v m es → MR F w' k v m es
 | [], _, h => h
 | x :: m, es, h => by
   simp only [MR] at h ⊢
   obtain ⟨e, es', h0, h1, h2, h3, h4, h5⟩ := h
   exact ⟨e, es', h0, h1.cells hc, h2, h3.cells hc, h4, h5.cells hc⟩
theorem OR.cells (hc : ∀ (x : Addr) (v : Value), w.cell? x = some v → w'.cell? x = some v) {o : Nat} {x : Ob} (hb : x.inf.isSome = true → w'.heap[E.β o]? = w.heap[E.β o]?) (h : OR E I F w o x) : OR E I F w' o x := by
 cases x with
 | gone => trivial
 | bx c =>
   have hb := hb rfl
   obtain ⟨cs, T, h1, h2⟩ := h
   exact ⟨cs, T, by rw [hb]; exact h1, CR.cells hc h2⟩
 | sc ver te e xs =>
   have hb := hb rfl
   obtain ⟨cs, h1, h2, h3, h4, h5, h6⟩ := h
   exact ⟨cs, by rw [hb]; exact h1, h2, h3, h4, h5, h6.cells hc⟩
 | lp C s j c =>
   have hb := hb rfl
   obtain ⟨r, vs, h1, h2, h3, h4⟩ := h
   exact ⟨r, vs, by rw [hb]; exact h1, h2, h3, CR.cells hc h4⟩
 | mo k v m =>
   have hb := hb rfl
   obtain ⟨es, cl, h1, h2⟩ := h
   exact ⟨es, cl, by rw [hb]; exact h1, h2.cells hc⟩
theorem GlobOk.cells {gl : Nat → Option ((t : Ty) × t.D)} (hc : ∀ (x : Addr) (v : Value), w.cell? x = some v → w'.cell? x = some v) (h : GlobOk gl F w) : GlobOk gl F w' := by
 intro g p hp
 obtain ⟨h1, c, h2, h3⟩ := h g p hp
 exact ⟨h1, c, h2.cells hc, h3.cells hc⟩
end
section
variable {G : En} {E : Env} {F : Nat → Prop} {st : St} {a : Act} {w : World}
/-- The first mark is come to: its block is shut. -/
theorem Rel.take1 {d : Deferred} {l : List Deferred} (h : Rel G E F st a w) (hd : a.defers = d :: l) : ∃ D, d.target = .collected D ∧ (∀ P : Program, (Instr.takeDeferred D).run P w = .ok [] (w.putObj D (.deferred none))) ∧ Rel G E F st { a with defers := l } (w.putObj D (.deferred none)) := by
 have hm := h.defers
 rw [hd] at hm
 obtain ⟨⟨D, h1, h2, h3, h4, h5⟩, h6⟩ := hm
 refine ⟨D, h1, fun P => run_takeDeferred h4, ?_⟩
 have hlt : D < w.heap.size := h.frz D h3
 have hother : ∀ b, b ≠ D → (w.putObj D (.deferred none)).heap[b]? = w.heap[b]? := fun b hb => World.putObj_heap_other hb
 have hc : ∀ (x : Addr) (v : Value), w.cell? x = some v → (w.putObj D (.deferred none)).cell? x = some v := by
   intro x v hx
   unfold World.cell? at hx ⊢
   by_cases e : x.block = D
   · rw [e, h4] at hx; cases hx
   · rw [hother _ e]; exact hx
 have hob : ∀ o, st.live o → (w.putObj D (.deferred none)).heap[E.β o]? = w.heap[E.β o]? := fun o ho => hother _ fun e => (h.apart o ho).1 (e ▸ h3)
 have hmk : ∀ {m : List Deferred}, (∀ d' ∈ m, d'.target ≠ .collected D) → MarksOk G.w0.heap.size F w m → MarksOk G.w0.heap.size F (w.putObj D (.deferred none)) m := by
   intro m
   induction m with
   | nil => intro _ _; trivial
   | cons d' m ih =>
     intro hne hm
     obtain ⟨⟨D', g1, g2, g3, g4, g5⟩, g6⟩ := hm
     refine ⟨⟨D', g1, g2, g3, ?_, g5⟩, ih (fun x hx => hne x (by simp [hx])) g6⟩
     rw [hother _ fun e => hne d' (by simp) (by rw [g1, e])]; exact g4
 exact { defers := hmk h5 h6, size := h.size, tms := fun i x hx => (h.tms i x hx).cells hc
         obs := fun o x hx => (h.obs o x hx).cells hc fun hi => hob o (by simp [St.live, St.inf, hx, hi])
         apart := fun o ho => ⟨(h.apart o ho).1, by rw [World.putObj_size]; exact (h.apart o ho).2⟩, inj := h.inj, frz := fun b hb => by rw [World.putObj_size]; exact h.frz b hb, new := h.new, own := h.own
         os := h.os, tape := h.tape, output := h.output, grow := by rw [World.putObj_size]; exact h.grow
         frame := fun b hb ho => by rw [hother b (by omega)]; exact h.frame b hb ho
         glob := h.glob.cells hc, stay := h.stay, live0 := h.live0 }
/-- All marks. -/
theorem Rel.leaves {P : Program} {f : Fence} {n : Nat} {fn : Func} {R : Ending → World → Prop} : ∀ {l : List Deferred} {a : Act} {w : World}, a.defers = l → Rel G E F st a w →
   (∀ w', Rel G E F st { a with defers := [] } w' → LeavesIn f n P fn a.tmps R [] .returning w') → LeavesInM f n P fn a.tmps R l .returning w
 | [], a, w, hd, h, k => by
   have : ({ a with defers := [] } : Act) = a := by cases a; simp only at hd; subst hd; rfl
   exact k w (by rw [this]; exact h)
 | d :: l, a, w, hd, h, k => by
   obtain ⟨D, h1, h2, h3⟩ := h.take1 hd
   refine ⟨(fun h => nomatch h), .inl ⟨D, _, h1, h2 P, ?_⟩⟩
   exact Rel.leaves (a := { a with defers := l }) rfl h3 k
end
end Go.Am

/- The abstract machine, part 27: a function. -/
namespace Go.Am
open Go
def resAVs (X : Cy) (st : St) : List ResultVar → Option (List AV × Prop)
 | [] => some ([], True)
 | .tmp t :: l => (match evalA X.gl st (.tmp t), resAVs X st l with
   | some v, some r => some (v :: r.1, r.2)
   | _, _ => none)
 | .cell a T :: l => (match evalA X.gl st (.tmp a) with
   | some x => (match loadA X.toCx st T x, resAVs X st l with
     | some (v, p), some r => some (v :: r.1, p ∧ r.2)
     | _, _ => none)
   | none => none)
/-- What results and objects are, in their plain form. -/
def retB (X : Cy) (sep view : Bool) (rs : List AV) (ob : List Ob) : Option St :=
 match noTD rs, normB X.m0 X.bs (upTo rs.length) ⟨rs, ob⟩ with
 | true, some s1 => (match !sep || (AV.flatL s1.tm && Ob.flatL s1.ob), view with
   | true, false => some s1
   | true, true => viewSt X.m0 s1
   | _, _ => none)
 | _, _ => none
def retA (X : Cy) (sep view : Bool) (st : St) (rvs : List ResultVar) : Option (St × Prop) :=
 match resAVs X st rvs with
 | some (rs, p) => (match retB X sep view rs st.ob with
   | some s => some (s, p)
   | none => none)
 | none => none
def resF (tmps : Array Value) : ResultVar → Sem Value
 | .tmp t => pure (tmps.getD t undef)
 | .cell ad t => do loadVar t (← asAddr (tmps.getD ad undef))
/-- What a function is to leave. -/
def RetR (X : Cy) (sep view : Bool) (rvs : List ResultVar) (res : List AV) (ob1 : List Ob) : Exit → St → Prop
 | .normal, st | .ret, st => (match retA X sep view st rvs with
   | some (s, p) => p ∧ St.ge X.m0 ⟨res, ob1⟩ s
   | none => False)
 | _, _ => False
section
variable {X : Cy} {G : En} {E : Env} {F : Nat → Prop} {st : St} {a : Act} {w : World}
theorem run_resAVs (hX : X.Ok) (hG : G.gl = X.gl) (h : Rel G E F st a w) : ∀ {l : List ResultVar} {rs : List AV} {p : Prop}, resAVs X st l = some (rs, p) → p → noTD rs = true →
   ∃ vs, (l.mapM (resF a.tmps)).run X.P w = .ok vs w ∧ VRs E st.inf F w rs vs
 | [], rs, p, he, _, _ => by
   simp only [resAVs] at he; injection he with he; injection he with h1 h2; subst h1
   exact ⟨[], rfl, by simp only [VRs]⟩
 | .tmp t :: l, rs, p, he, hp, hn => by
   simp only [resAVs] at he
   split at he <;> try (cases he; done)
   rename_i v r hv hr
   injection he with he; injection he with h1 h2; subst h1 h2
   have hn1 := noTD_get hn (i := 0) rfl
   rw [← hG] at hv
   have hT := (h.eval hv).notup hn1.1 hn1.2
   obtain ⟨vs, g1, g2⟩ := run_resAVs hX hG h hr hp (by cases v <;> simp_all [noTD])
   refine ⟨a.tmps.getD t undef :: vs, ?_, ?_⟩
   · rw [List.mapM_cons]
     simp only [resF, Sem.run_bind, Sem.run_pure, Result.andThen_ok, g1]
   · simp only [VRs]
     exact ⟨_, vs, rfl, hT.1, hT.2, g2⟩
 | .cell ad T :: l, rs, p, he, hp, hn => by
   simp only [resAVs] at he
   split at he <;> try (cases he; done)
   rename_i x hx
   split at he <;> try (cases he; done)
   rename_i v q r hv hr
   injection he with he; injection he with h1 h2; subst h1 h2
   have hn1 := noTD_get hn (i := 0) rfl
   rw [← hG] at hx
   obtain ⟨u, k1, k2⟩ := run_loadA hX.toOk h (h.eval hx) hv
   have hT := k2.notup hn1.1 hn1.2
   obtain ⟨vs, g1, g2⟩ := run_resAVs hX hG h hr hp.2 (by cases v <;> simp_all [noTD])
   have hk : (resF a.tmps (.cell ad T)).run X.P w = .ok u w := by
     show (do loadVar T (← asAddr (a.tmps.getD ad undef)) : Sem Value).run X.P w = .ok u w
     have : a.eval (.tmp ad) = a.tmps.getD ad undef := rfl
     rw [this] at k1
     generalize a.tmps.getD ad undef = z at k1
     unfold Instr.loadAt at k1
     cases z with
     | pointer A =>
       cases A with
       | some A => exact k1
       | none => simp [Instr.sureAddr, stuck, Sem.run_bind] at k1
     | _ => simp [Instr.sureAddr, stuck, Sem.run_bind] at k1
   refine ⟨u :: vs, ?_, ?_⟩
   · rw [List.mapM_cons]
     rw [Sem.run_bind, hk]
     simp only [Result.andThen_ok, Sem.run_bind, g1, Sem.run_pure]
   · simp only [VRs]
     exact ⟨_, vs, rfl, hT.1, hT.2, g2⟩
theorem retB_noTD {sep view : Bool} {rs : List AV} {ob : List Ob} {s : St} (h : retB X sep view rs ob = some s) : noTD rs = true := by
 unfold retB at h
 split at h <;> try (cases h; done)
 rename_i hn _
 exact hn
/-- A call's end. -/
theorem Rel.retB {E0 : Env} {F0 F : Nat → Prop} {w0 : World} {m0 : Nat} {E' : Env} {F' : Nat → Prop} {a' : Act} {w' : World} {args : List AV} {ob0 : List Ob} {a0 : Act} (hm : X.m0 = m0) (hsub : ∀ b, F0 b → F b) {sep view : Bool} (hsep : sep = false → F0 = F)
   (hglob : GlobOk X.gl F0 w0) (hr : Rel ⟨w0, F, E0, m0, X.gl⟩ E0 F ⟨args, ob0⟩ a0 w0) (hr' : Rel ⟨w0, F, E0, m0, X.gl⟩ E' F' st a' w')
   {rs res : List AV} {ob1 : List Ob} {vs : List Value} (hvs : VRs E' st.inf F' w' rs vs) {s : St} (hret : Am.retB X sep view rs st.ob = some s) (hge : St.ge X.m0 ⟨res, ob1⟩ s) :
   ∃ E2 F2, Rel ⟨w0, F0, E0, m0, X.gl⟩ E2 F2 ⟨res, ob1⟩ ⟨vs.toArray, []⟩ w' := by
 unfold Am.retB at hret
 split at hret <;> try (cases hret; done)
 rename_i s1 hn1 hnorm
 have hr1 : Rel ⟨w0, F, E0, m0, X.gl⟩ E' F' ⟨rs, st.ob⟩ ⟨vs.toArray, []⟩ w' := by
   refine { hr' with defers := trivial, size := by simp [hvs.length], tms := ?_, obs := hr'.obs, apart := hr'.apart, inj := hr'.inj, own := hr'.own, stay := hr'.stay, live0 := hr'.live0 }
   intro i x hx
   have := VRs.atT hvs i x hx
   exact TR.of_VR this.1 this.2
 rw [hm] at hnorm
 obtain ⟨E2, hr2⟩ := hr1.normB hnorm
 have hr3 : (!sep || (AV.flatL s1.tm && Ob.flatL s1.ob)) = true → ∃ F3, Rel ⟨w0, F0, E0, m0, X.gl⟩ E2 F3 s1 ⟨vs.toArray, []⟩ w' := by
   intro hfl
   cases hsp : sep with
   | false => rw [hsep hsp]; exact ⟨_, hr2⟩
   | true =>
     rw [hsp] at hfl
     simp only [Bool.not_true, Bool.false_or, Bool.and_eq_true] at hfl
     refine ⟨F0, hr2.flat hfl.1 hfl.2 (fun b hb => hr.frz b (hsub b hb)) (fun o ho hb => ?_) hglob rfl⟩
     exact (hr.apart o (hr.live0 o ho)).1 (hsub _ hb)
 cases hfl : (!sep || (AV.flatL s1.tm && Ob.flatL s1.ob)) with
 | false => rw [hfl] at hret; cases view <;> cases hret
 | true =>
   rw [hfl] at hret
   obtain ⟨F3, hr3⟩ := hr3 hfl
   cases view with
   | false =>
     injection hret with hret; subst hret
     rw [hm] at hge
     exact ⟨E2, F3, hr3.weaken hge⟩
   | true =>
     simp only at hret
     rw [hm] at hret
     obtain ⟨F4, hr4⟩ := hr3.view hret
     rw [hm] at hge
     exact ⟨E2, F4, hr4.weaken hge⟩
theorem gcall_ofS (hX : X.Ok) {f : FuncId} {fn : Func} {c : Code} (hf : X.P.funcs[f]? = some fn) (hb : fn.body = some c) {args res : List AV} {ob0 ob1 : List Ob} {sep view : Bool} (hm : X.m0 = ob0.length)
   {rvs : List ResultVar} (hrv : fn.results.toList = rvs)
   (h : Sat X (RetR X sep view rvs res ob1) ⟨args ++ List.replicate (fn.ntmps - args.length) .dead, ob0⟩ [.code c]) (hro : X.ro = none := by rfl) : GCall X.P X.gl f sep args ob0 res ob1 := by
 intro E F F0 w a hsub hsep hglob hr
 refine callsIn_Fw.mp (callsIn_of_wp_marks (F := Fw none) (n := 0) hf hb trivial ?_)
 have hsz : a.tmps.size = args.length := hr.size
 have hr0 : Rel ⟨w, F, E, ob0.length, X.gl⟩ E F ⟨args ++ List.replicate (fn.ntmps - args.length) .dead, ob0⟩ { tmps := a.tmps ++ Array.replicate (fn.ntmps - a.tmps.size) undef, defers := [] } w := by
   refine { hr with defers := trivial, size := by simp [hsz], tms := ?_, obs := hr.obs, apart := hr.apart, inj := hr.inj, own := hr.own, stay := hr.stay, live0 := hr.live0 }
   intro i x hx
   by_cases hi : i < args.length
   · have hx' : args[i]? = some x := by simpa [List.getElem?_append_left hi] using hx
     have := hr.tms i x hx'
     have hi' : i < a.tmps.size := by omega
     show TR E (St.inf ⟨args, ob0⟩) F w x _
     simpa [Array.getD_eq_getD_getElem?, Array.getElem?_append_left hi'] using this
   · have : x = .dead := by
       simp only at hx
       rw [List.getElem?_append_right (by omega), List.getElem?_replicate] at hx
       split at hx
       · injection hx with hx; exact hx.symm
       · cases hx
     subst this; trivial
 have hs := h none ⟨w, F, E, ob0.length, X.gl⟩ rfl hm.symm (by rw [hro]; rfl) E F _ w hr0
 refine wpIn_mono hs ?_
 have fin : ∀ a' w', (∃ E' F' st, Rel ⟨w, F, E, ob0.length, X.gl⟩ E' F' st a' w' ∧ RetR X sep view rvs res ob1 .ret st) →
     LeavesInM (Fw none) 0 X.P fn a'.tmps (fun e w' => ∃ E' F' a'', e = .returned (retVal a''.tmps) ∧ Rel ⟨w, F0, E, ob0.length, X.gl⟩ E' F' ⟨res, ob1⟩ a'' w') a'.defers .returning w' := by
   rintro a' w' ⟨E', F', st, hr', hR⟩
   refine hr'.leaves rfl fun w' hr' => ?_
   simp only [LeavesIn]
   simp only [RetR] at hR
   split at hR <;> try (exact hR.elim)
   rename_i s p hret
   obtain ⟨hp, hge⟩ := hR
   unfold retA at hret
   split at hret <;> try (cases hret; done)
   rename_i rs q hres
   split at hret <;> try (cases hret; done)
   rename_i s1 hrb
   injection hret with hret; injection hret with e1 e2; subst e1 e2
   obtain ⟨vs, hrun, hvs⟩ := run_resAVs (G := ⟨w, F, E, ob0.length, X.gl⟩) hX rfl hr' hres hp (retB_noTD hrb)
   refine ⟨retVal vs.toArray, ?_, ?_⟩
   · unfold results
     rw [Array.mapM_eq_mapM_toList, hrv]
     have key : ∀ g : ResultVar → Sem Value, g = resF a'.tmps → (do let vs ← List.toArray <$> rvs.mapM g; pure (if h : vs.size = 1 then vs[0] else Value.tuple vs) : Sem Value).run X.P w' = .ok (retVal vs.toArray) w' := by
       rintro g rfl
       simp only [Sem.run_bind, Sem.run_map, hrun, Result.andThen_ok, Sem.run_pure]
       rfl
     exact key _ (by funext x; cases x <;> rfl)
   · obtain ⟨E2, F2, h2⟩ := Rel.retB hm hsub hsep hglob hr hr' hvs hrb hge
     exact ⟨E2, F2, _, rfl, h2⟩
 intro e a' w' he
 cases e with
 | normal => exact fin a' w' he
 | ret => exact fin a' w' he
 | exit id => obtain ⟨_, _, _, _, h2⟩ := he; exact h2.elim
 | goto l => obtain ⟨_, _, _, _, h2⟩ := he; exact h2.elim
 | panic ch => obtain ⟨_, _, _, _, h2⟩ := he; exact h2.elim
 | outgrown => obtain ⟨_, _, _, _, h2⟩ := he; exact h2.elim
theorem gcall_of (hX : X.Ok) {f : FuncId} {fn : Func} {c : Code} (hf : X.P.funcs[f]? = some fn) (hb : fn.body = some c) {args res : List AV} {ob0 ob1 : List Ob} {sep view : Bool} (hm : X.m0 = ob0.length)
   {H : Nat → Option Hint} (n : Nat) {rvs : List ResultVar} (hrv : fn.results.toList = rvs)
   (h : run X H (RetR X sep view rvs res ob1) n ⟨args ++ List.replicate (fn.ntmps - args.length) .dead, ob0⟩ [.code c]) (hro : X.ro = none := by rfl) : GCall X.P X.gl f sep args ob0 res ob1 :=
 gcall_ofS hX hf hb hm hrv (.of_run hX h) hro
def fillT : List Nat → List AV → List AV → List AV
 | t :: ts, v :: vs, tm => fillT ts vs (tm.set t v)
 | _, _, tm => tm
def roundT (C : RcC) (vs xs : List AV) : List AV := fillT C.ps.toList xs (fillT C.ixs vs (List.replicate C.n .dead))
/-- The round's end: the record, and what yield hands back. -/
def yEnd (X : Cy) (sep view : Bool) (res : List AV) (ob1 : List Ob) (s : LoopState) (j : Option Code) (b : AV) (st : St) : Prop :=
 match st.ob[(0 : Nat)]? with
 | some (.lp C _ _ c) => (match retB X sep view [b] (setOb st.ob 0 (.lp C s j c)) with
   | some s => St.ge X.m0 ⟨res, ob1⟩ s
   | none => False)
 | _ => False
def YieldR (X : Cy) (sep view : Bool) (res : List AV) (ob1 : List Ob) : Exit → St → Prop
 | .normal, st => yEnd X sep view res ob1 .ready none .tt st
 | .ret, st => yEnd X sep view res ob1 .done (some .ret) .ff st
 | .exit id, st => yEnd X sep view res ob1 .done (some (.exit id)) .ff st
 | _, _ => False
/-- Temporaries as values say. -/
def TmsOk (E : Env) (I : Nat → Option Inf) (F : Nat → Prop) (w : World) (tm : List AV) (tmps : Array Value) : Prop := tmps.size = tm.length ∧ ∀ (i : Nat) (x : AV), tm[i]? = some x → TR E I F w x (tmps.getD i undef)
theorem TmsOk.set {I : Nat → Option Inf} {tm : List AV} {tmps : Array Value} (h : TmsOk E I F w tm tmps) {t : Nat} {x : AV} {v : Value} (hx : TR E I F w x v) : TmsOk E I F w (tm.set t x) (tmps.setIfInBounds t v) := by
 refine ⟨by simp [h.1], fun i y hy => ?_⟩
 by_cases ht : t < tmps.size
 · rw [getD_setIf _ _ _ _ ht]
   rw [List.getElem?_set] at hy
   split at hy
   · rename_i e
     split at hy
     · injection hy with hy; subst hy; simp [e]; exact hx
     · cases hy
   · rename_i e
     simp only [e, if_false]; exact h.2 i y hy
 · have h1 : tmps.setIfInBounds t v = tmps := by simp [Array.setIfInBounds, ht]
   have h2 : tm.set t x = tm := List.set_eq_of_length_le (by have := h.1; omega)
   rw [h1]; rw [h2] at hy
   exact h.2 i y hy
theorem TmsOk.fill1 {I : Nat → Option Inf} {tmps : Array Value} : ∀ {ts : List Nat} {vs : List AV} {us : List Value} {tm : List AV}, TmsOk E I F w tm tmps → VRs E I F w vs us → us.length = ts.length → (∀ (i t : Nat), ts[i]? = some t → tmps.getD t undef = us.getD i undef) → TmsOk E I F w (fillT ts vs tm) tmps
 | [], _, _, _, h, _, _, _ => by simpa only [fillT] using h
 | t :: ts, [], _, _, h, _, _, _ => by simpa only [fillT] using h
 | t :: ts, v :: vs, us, tm, h, hv, hl, hk => by
   simp only [VRs] at hv
   obtain ⟨u, us, rfl, h1, h2, h3⟩ := hv
   simp only [fillT]
   refine TmsOk.fill1 (us := us) ?_ h3 (by simpa using hl) (fun i t' ht => by simpa using hk (i + 1) t' (by simpa using ht))
   have hu : tmps.getD t undef = u := by simpa using hk 0 t rfl
   refine ⟨by simp [h.1], fun i y hy => ?_⟩
   rw [List.getElem?_set] at hy
   split at hy
   · rename_i e
     split at hy
     · injection hy with hy; subst hy; subst e
       rw [hu]; exact TR.of_VR h1 h2
     · cases hy
   · exact h.2 i y hy
theorem TmsOk.fill2 {I : Nat → Option Inf} : ∀ {ts : List Nat} {vs : List AV} {us : List Value} {tm : List AV} {tmps : Array Value}, TmsOk E I F w tm tmps → VRs E I F w vs us → TmsOk E I F w (fillT ts vs tm) ((ts.zip us).foldl (fun tmps (t, a) => tmps.setIfInBounds t a) tmps)
 | [], _, _, _, _, h, _ => by simpa [fillT] using h
 | t :: ts, [], us, _, _, h, hv => by simp only [VRs] at hv; subst hv; simpa [fillT] using h
 | t :: ts, v :: vs, us, tm, tmps, h, hv => by
   simp only [VRs] at hv
   obtain ⟨u, us, rfl, h1, h2, h3⟩ := hv
   simp only [fillT, List.zip_cons_cons, List.foldl_cons]
   exact TmsOk.fill2 (h.set (TR.of_VR h1 h2)) h3
theorem gyield_of (hX : X.Ok) {C : RcC} {j : Option Code} {vs : List AV} {rest : List Ob} {xs res : List AV} {ob1 : List Ob} {sep view : Bool} (hm : X.m0 = rest.length + 1) (hps : C.ps.size = xs.length) (hnt : noTD xs = true) {H : Nat → Option Hint} (n m : Nat)
   (h : run X H (fun _ _ => False) n ⟨roundT C vs xs, .lp C .ready j (.clo 0 vs []) :: rest⟩ [.code C.asg, .beg, .inv fun st => run X H (YieldR X sep view res ob1) m st [.code C.body]]) (hro : X.ro = some 0 := by rfl) :
   GYield X.P X.gl sep (.yld 0 :: xs) (.lp C .ready j (.clo 0 vs []) :: rest) res ob1 := by
 intro E F F0 w a hsub hsep hglob hr
 have hlen : (Ob.lp C .ready j (.clo 0 vs []) :: rest).length = rest.length + 1 := rfl
 obtain ⟨r, vs0, q1, ⟨⟨c1, c2, c3, c4⟩, q3, q4⟩, ⟨k1, k2⟩, q6⟩ := hr.obs 0 _ rfl
 have hy := one_cell (show TR E _ F w (.yld 0) (a.tmps.getD 0 undef) from hr.tms 0 _ rfl) rfl
 simp only [CR] at hy
 injection hy with hy _
 have hsz : a.tmps.size = xs.length + 1 := hr.size
 obtain ⟨y, us, hus⟩ : ∃ y us, a.tmps.toList = y :: us := by
   cases ht : a.tmps.toList with
   | nil => have := congrArg List.length ht; simp [hsz] at this
   | cons y us => exact ⟨y, us, rfl⟩
 have hget : ∀ i, a.tmps.getD i undef = (y :: us).getD i undef := fun i => by
   rw [← hus]; simp [Array.getD_eq_getD_getElem?, List.getD_eq_getElem?_getD]
 have hyv : y = .func (.yield (E.β 0)) #[] #[] := by rw [← hy, hget]; rfl
 have hlu : us.length = xs.length := by
   have := congrArg List.length hus
   simp [hsz] at this; omega
 have hxs : VRs E (St.inf ⟨.yld 0 :: xs, .lp C .ready j (.clo 0 vs []) :: rest⟩) F w xs us := by
   refine VRs.of_get hlu hnt fun i x hx => ?_
   have := hr.tms (i + 1) x (by simpa using hx)
   rw [hget] at this
   simpa using this
 have hinf : (St.inf ⟨.yld 0 :: xs, .lp C .ready j (.clo 0 vs []) :: rest⟩) = St.inf ⟨roundT C vs xs, .lp C .ready j (.clo 0 vs []) :: rest⟩ := rfl
 rw [hinf] at hxs
 refine ⟨E.β 0, us, by rw [hus, hyv], r.fn, _, r.assign, r.body, run_yield q1 (by rw [c1, hps]; simpa using hlu), ?_⟩
 simp only [CR] at q6
 obtain ⟨ws, ws', e1, e2, e3⟩ := q6
 simp only [List.cons.injEq, Value.func.injEq, true_and, and_true] at e1
 have e1 : vs0 = ws := by simpa using e1.1
 subst e1
 have ht0 : TmsOk E (St.inf ⟨roundT C vs xs, .lp C .ready j (.clo 0 vs []) :: rest⟩) F w (List.replicate C.n .dead) r.tmps := by
   refine ⟨by simp [c4], fun i x hx => ?_⟩
   rw [List.getElem?_replicate] at hx
   split at hx
   · injection hx with hx; subst hx; trivial
   · cases hx
 have ht1 := (ht0.fill1 e2 k1 k2).fill2 (ts := C.ps.toList) hxs
 have hfold : (r.params.zip us.toArray).foldl (fun tmps (t, a) => tmps.setIfInBounds t a) r.tmps = (C.ps.toList.zip us).foldl (fun tmps (t, a) => tmps.setIfInBounds t a) r.tmps := by
   rw [← Array.foldl_toList, Array.toList_zip, c1]
 rw [hfold]
 rw [c2, c3]
 have hG : (⟨w, F, E, rest.length + 1, X.gl⟩ : En).gl = X.gl := rfl
 have hro' : some (E.β 0) = X.ro.map (⟨w, F, E, rest.length + 1, X.gl⟩ : En).E0.β := by rw [hro]; rfl
 have hr0 : Rel ⟨w, F, E, rest.length + 1, X.gl⟩ E F ⟨roundT C vs xs, .lp C .ready j (.clo 0 vs []) :: rest⟩ { tmps := (C.ps.toList.zip us).foldl (fun tmps (t, a) => tmps.setIfInBounds t a) r.tmps, defers := [] } w :=
   { hr with defers := trivial, size := ht1.1, tms := ht1.2, obs := hr.obs, apart := hr.apart, inj := hr.inj, own := hr.own, stay := hr.stay, live0 := hr.live0 }
 refine roundIn_of_wpIn (F := Fence.wide) trivial ?_
 have hs := run_sound (ro := some (E.β 0)) hX hG hm.symm hro' n _ _ h E F _ w hr0
 refine wpIn_mono (show C.asg.wpIn (Fw (some (E.β 0))) 0 X.P _ _ w from hs) ?_
 intro e a1 w1 he
 cases e with
 | normal =>
   obtain ⟨w2, b1, E1, F1, st1, b2, b3⟩ := he (E.β 0) rfl
   refine ⟨w2, b1, ?_⟩
   have hs2 := run_sound (ro := some (E.β 0)) hX hG hm.symm hro' m _ _ b3 E1 F1 _ w2 b2
   refine wpIn_mono (show C.body.wpIn (Fw (some (E.β 0))) 0 X.P _ _ w2 from hs2) ?_
   have fin : ∀ a' w' (jp : Option Code) (s : LoopState) (b : AV), (s = if jp.isNone then .ready else .done) → (b = if jp.isNone then .tt else .ff) → (∃ E' F' st, Rel ⟨w, F, E, rest.length + 1, X.gl⟩ E' F' st a' w' ∧ yEnd X sep view res ob1 s jp b st) →
       ∃ v w'', (Instr.endRound (E.β 0) jp).run X.P w' = .ok v w'' ∧ ∃ E' F' a'', Ending.returned v = .returned (retVal a''.tmps) ∧ Rel ⟨w, F0, E, rest.length + 1, X.gl⟩ E' F' ⟨res, ob1⟩ a'' w'' := by
     rintro a' w' jp s b hsj hb ⟨E', F', st, d1, d2⟩
     unfold yEnd at d2
     split at d2 <;> try (exact d2.elim)
     rename_i C' s' j' c' hob
     split at d2 <;> try (exact d2.elim)
     rename_i s2 hret
     obtain ⟨r', vs', f1, ⟨f2, f3, f4⟩, f5, f6⟩ := d1.obs _ _ hob
     have hst := (d1.stay 0 ⟨0, .cell⟩ (Nat.succ_pos _) (by simp [St.inf, hob, Ob.inf]) rfl).1
     have hst : E'.β 0 = E.β 0 := hst
     have hlv : st.live 0 := by simp [St.live, St.inf, hob, Ob.inf]
     have hsz' := (d1.apart 0 hlv).2
     rw [hst] at f1 hsz'
     have hF' : ∀ b, F' b → F' b ∧ (w'.putObj (E.β 0) (.loop { r' with state := if jp.isNone then .ready else .done, pending := jp })).heap[b]? = w'.heap[b]? := fun b hb => ⟨hb, World.putObj_heap_other fun e => (d1.apart 0 hlv).1 (by rw [hst, ← e]; exact hb)⟩
     have hr3 := d1.updOb (n := 0) (y := .lp C' s jp c') (w' := w'.putObj (E.β 0) (.loop { r' with state := if jp.isNone then .ready else .done, pending := jp })) hob rfl rfl rfl rfl rfl World.putObj_size (fun b hb => World.putObj_heap_other (by rw [hst] at hb; exact hb))
       ⟨{ r' with state := if jp.isNone then .ready else .done, pending := jp }, vs', by rw [hst]; exact World.putObj_heap_same hsz', ⟨f2, hsj.symm, rfl⟩, f5, CR.mono hF' (fun q v _ => Ag.refl _ _ _ v) f6⟩
     have hvs : VRs E' (st.setO 0 (.lp C' s jp c')).inf F' (w'.putObj (E.β 0) (.loop { r' with state := if jp.isNone then .ready else .done, pending := jp })) [b] [.bool jp.isNone] := by
       simp only [VRs]
       refine ⟨_, [], rfl, ?_, ?_, rfl⟩
       · cases jp <;> simp_all [CR, Value.cells]
       · cases jp <;> simp_all [Shaped, AV.isAgg, Value.cells]
     obtain ⟨E2, F2, h2⟩ := Rel.retB (st := st.setO 0 (.lp C' s jp c')) hm hsub hsep hglob hr hr3 hvs hret d2
     exact ⟨_, _, run_endRound jp f1, E2, F2, ⟨#[.bool jp.isNone], []⟩, rfl, h2⟩
   intro e a' w' he
   cases e with
   | normal => exact fin a' w' none .ready .tt rfl rfl he
   | ret => exact fin a' w' (some .ret) .done .ff rfl rfl he
   | exit id => exact fin a' w' (some (.exit id)) .done .ff rfl rfl he
   | goto l => obtain ⟨_, _, _, _, h2⟩ := he; exact h2.elim
   | panic ch => obtain ⟨_, _, _, _, h2⟩ := he; exact h2.elim
   | outgrown => obtain ⟨_, _, _, _, h2⟩ := he; exact h2.elim
 | exit id => obtain ⟨_, _, _, _, h2⟩ := he; exact h2.elim
 | ret => obtain ⟨_, _, _, _, h2⟩ := he; exact h2.elim
 | goto l => obtain ⟨_, _, _, _, h2⟩ := he; exact h2.elim
 | panic ch => obtain ⟨_, _, _, _, h2⟩ := he; exact h2.elim
 | outgrown => obtain ⟨_, _, _, _, h2⟩ := he; exact h2.elim
end
end Go.Am

/- The abstract machine, part 28: contracts of functions, in a list. -/
namespace Go.Am
open Go
section
variable {G : En} {E : Env} {F : Nat → Prop} {st : St} {a : Act} {w : World}
theorem Rel.retm (h : Rel G E F st a w) {tm : List AV} (hl : tm.length = st.tm.length) (ht : ∀ (i : Nat) (y : AV), tm[i]? = some y → ∃ x, st.tm[i]? = some x ∧ ∀ u, TR E st.inf F w x u → TR E st.inf F w y u) : Rel G E F ⟨tm, st.ob⟩ a w := by
 refine { h with size := by rw [h.size, hl], tms := ?_, obs := h.obs, apart := h.apart, inj := h.inj, own := h.own, stay := h.stay, live0 := h.live0 }
 intro i y hy
 obtain ⟨x, h1, h2⟩ := ht i y hy
 exact h2 _ (h.tms i x h1)
end
/-- Arguments may be told in another form. -/
theorem GCall.args {P : Program} {gl : Nat → Option ((t : Ty) × t.D)} {f : FuncId} {sep : Bool} {args args' res : List AV} {ob0 ob1 : List Ob} (h : GCall P gl f sep args' ob0 res ob1) (hl : args'.length = args.length)
   (ht : ∀ (i : Nat) (y : AV), args'[i]? = some y → ∃ x, args[i]? = some x ∧ ∀ E I F w u, TR E I F w x u → TR E I F w y u) : GCall P gl f sep args ob0 res ob1 := by
 intro E F F0 w a h1 h2 h3 hr
 exact h E F F0 w a h1 h2 h3 (hr.retm hl fun i y hy => by
   obtain ⟨x, g1, g2⟩ := ht i y hy
   exact ⟨x, g1, fun u hu => g2 _ _ _ _ u hu⟩)
structure Entry (P : Program) (gl : Nat → Option ((t : Ty) × t.D)) where
 f : FuncId
 lend : Bool
 go : List AV → List Ob → Option (Prop × Bool × List AV × List Ob)
 en : Enters P f
 ok : ∀ args ob0 p sep res ob1, go args ob0 = some (p, sep, res, ob1) → p → GCall P gl f sep args ob0 res ob1
section
variable {P : Program} {gl : Nat → Option ((t : Ty) × t.D)}
def findG (f : FuncId) (args : List AV) (ob0 : List Ob) : List (Entry P gl) → Option (Prop × Bool × List AV × List Ob)
 | [] => none
 | e :: l => (match Nat.beq e.f f with
   | true => (match e.go args ob0 with
     | some r => some r
     | none => findG f args ob0 l)
   | false => findG f args ob0 l)
def findL (f : FuncId) : List (Entry P gl) → Bool
 | [] => false
 | e :: l => (match Nat.beq e.f f with
   | true => e.lend
   | false => findL f l)
theorem findG_ok {f : FuncId} {args : List AV} {ob0 : List Ob} : ∀ {l : List (Entry P gl)} {p : Prop} {sep : Bool} {res : List AV} {ob1 : List Ob}, findG f args ob0 l = some (p, sep, res, ob1) → p → Enters P f ∧ GCall P gl f sep args ob0 res ob1
 | [], _, _, _, _, h, _ => by simp [findG] at h
 | e :: l, p, sep, res, ob1, h, hp => by
   unfold findG at h
   split at h
   · rename_i hb
     have hf := Nat.eq_of_beq_eq_true hb
     split at h
     · rename_i r hr
       injection h with h; subst h
       rw [← show e.f = f from hf]
       exact ⟨e.en, e.ok _ _ _ _ _ _ hr hp⟩
     · exact findG_ok (l := l) h hp
   · exact findG_ok (l := l) h hp
/-- The context of a function: the table of types, what is known of other functions, how many objects are lent to it, and where its open-order regions' pure parts end. -/
noncomputable def mkX (P : Program) (tt : TypeId → Option TI) (gl : Nat → Option ((t : Ty) × t.D)) (l : List (Entry P gl)) (m0 : Nat) (dr : Nat → Option Nat) : Cy :=
 { P, tt, hs := fun _ => false, gl, m0, Γ := fun f args ob0 => findG f args ob0 l, lend := fun f => findL f l, dr }
theorem mkX_ok {tt : TypeId → Option TI} (htt : ∀ T ti, tt T = some ti → TI.Ok P T ti) (l : List (Entry P gl)) (m0 : Nat) (dr : Nat → Option Nat) : (mkX P tt gl l m0 dr).Ok where
 tt := htt
 Γ := fun _ _ _ _ _ _ _ h hp => findG_ok h hp
 Γd := fun _ _ _ _ _ _ _ _ h _ => by cases h
 Yl := fun _ _ _ _ _ _ h _ => by cases h
theorem GCallT.weak {T : Array Value → World → (Ending → World → Prop) → Prop} {sep : Bool} {args args' res : List AV} {ob0 ob0' ob1 : List Ob} (h : GCallT T gl sep args' ob0' res ob1) (hg : St.ge ob0.length ⟨args', ob0'⟩ ⟨args, ob0⟩) : GCallT T gl sep args ob0 res ob1 := by
 intro E F F0 w a h1 h2 h3 hr
 have hlen : ob0'.length = ob0.length := by
   obtain ⟨g1, g2⟩ := Ob.geL_get hg.2
   refine Nat.le_antisymm (Nat.le_of_not_lt fun hlt => ?_) (Nat.le_of_not_lt fun hlt => ?_)
   · obtain ⟨x, hx, _⟩ := g1 ob0.length _ (List.getElem?_eq_getElem hlt)
     simp at hx
   · obtain ⟨y, hy, _⟩ := g2 _ hlt
     simp at hy
 have hr' := hr.weaken hg
 rw [← hlen] at hr' ⊢
 exact h E F F0 w a h1 h2 h3 hr'
theorem GCall.weak {f : FuncId} {sep : Bool} {args args' res : List AV} {ob0 ob0' ob1 : List Ob} (h : GCall P gl f sep args' ob0' res ob1) (hg : St.ge ob0.length ⟨args', ob0'⟩ ⟨args, ob0⟩) : GCall P gl f sep args ob0 res ob1 :=
 GCallT.weak (T := Calls P f) h hg
/-- A contract, of states that are told by data. -/
def entryW (f : FuncId) (en : Enters P f) (lend : Bool) {τ : Type} (get : List AV → List Ob → Option τ) (pre : τ → Prop) (sep : Bool) (args : τ → List AV) (ob0 : τ → List Ob) (res : τ → List AV) (ob1 : τ → List Ob)
   (ok : ∀ x, pre x → GCall P gl f sep (args x) (ob0 x) (res x) (ob1 x)) : Entry P gl where
 f := f
 lend := lend
 en := en
 go := fun as obs => match get as obs with
   | some x => some (pre x ∧ St.ge obs.length ⟨args x, ob0 x⟩ ⟨as, obs⟩, sep, res x, ob1 x)
   | none => none
 ok := by
   intro as obs p s r o h hp
   split at h <;> try (cases h; done)
   rename_i x hx
   injection h with h; injection h with h1 h2; injection h2 with h2 h3; injection h3 with h3 h4
   subst h1 h2 h3 h4
   exact (ok x hp.1).weak hp.2
structure YEntry (P : Program) (gl : Nat → Option ((t : Ty) × t.D)) where
 go : List AV → List Ob → Option (Prop × Bool × List AV × List Ob)
 ok : ∀ args ob0 p sep res ob1, go args ob0 = some (p, sep, res, ob1) → p → GYield P gl sep args ob0 res ob1
def yentryW {τ : Type} (get : List AV → List Ob → Option τ) (pre : τ → Prop) (sep : Bool) (args : τ → List AV) (ob0 : τ → List Ob) (res : τ → List AV) (ob1 : τ → List Ob)
   (ok : ∀ x, pre x → GYield P gl sep (args x) (ob0 x) (res x) (ob1 x)) : YEntry P gl where
 go := fun as obs => match get as obs with
   | some x => some (pre x ∧ St.ge obs.length ⟨args x, ob0 x⟩ ⟨as, obs⟩, sep, res x, ob1 x)
   | none => none
 ok := by
   intro as obs p s r o h hp
   split at h <;> try (cases h; done)
   rename_i x hx
   injection h with h; injection h with h1 h2; injection h2 with h2 h3; injection h3 with h3 h4
   subst h1 h2 h3 h4
   exact GCallT.weak (ok x hp.1) hp.2
def findY (args : List AV) (ob0 : List Ob) : List (YEntry P gl) → Option (Prop × Bool × List AV × List Ob)
 | [] => none
 | e :: l => (match e.go args ob0 with
   | some r => some r
   | none => findY args ob0 l)
theorem findY_ok {args : List AV} {ob0 : List Ob} : ∀ {l : List (YEntry P gl)} {p : Prop} {sep : Bool} {res : List AV} {ob1 : List Ob}, findY args ob0 l = some (p, sep, res, ob1) → p → GYield P gl sep args ob0 res ob1
 | [], _, _, _, _, h, _ => by simp [findY] at h
 | e :: l, p, sep, res, ob1, h, hp => by
   unfold findY at h
   split at h
   · rename_i r hr
     injection h with h; subst h
     exact e.ok _ _ _ _ _ _ hr hp
   · exact findY_ok (l := l) h hp
/-- The context of a function that yields, or (ro = some 0) of the round of a loop. -/
noncomputable def mkY (P : Program) (tt : TypeId → Option TI) (gl : Nat → Option ((t : Ty) × t.D)) (l : List (Entry P gl)) (yl : List (YEntry P gl)) (ro : Option Nat) (m0 : Nat) (dr : Nat → Option Nat) : Cy :=
 { P, tt, hs := fun _ => false, gl, m0, Γ := fun f args ob0 => findG f args ob0 l, lend := fun f => findL f l, dr, Yl := fun args ob0 => findY args ob0 yl, ro }
theorem mkY_ok {tt : TypeId → Option TI} (htt : ∀ T ti, tt T = some ti → TI.Ok P T ti) (l : List (Entry P gl)) (yl : List (YEntry P gl)) (ro : Option Nat) (m0 : Nat) (dr : Nat → Option Nat) : (mkY P tt gl l yl ro m0 dr).Ok where
 tt := htt
 Γ := fun _ _ _ _ _ _ _ h hp => findG_ok h hp
 Γd := fun _ _ _ _ _ _ _ _ h _ => by cases h
 Yl := fun _ _ _ _ _ _ h hp => findY_ok h hp
def entry1 (f : FuncId) (en : Enters P f) (t : Ty) (pre : t.D → Prop) (sep : Bool) (res : t.D → List AV) (obs : t.D → List Ob) (ok : ∀ a, pre a → GCall P gl f sep [ofD t a] [] (res a) (obs a)) : Entry P gl where
 f := f
 lend := false
 en := en
 go := fun args ob0 => match args, ob0 with
   | [x], [] => (match toD t x with
     | some a => some (pre a, sep, res a, obs a)
     | none => none)
   | _, _ => none
 ok := by
   intro args ob0 p s r o h hp
   split at h <;> try (cases h; done)
   rename_i x
   split at h <;> try (cases h; done)
   rename_i a ha
   injection h with h; injection h with h1 h2; injection h2 with h2 h3; injection h3 with h3 h4
   subst h1 h2 h3 h4
   refine (ok a hp).args rfl fun i y hy => ?_
   match i with
   | 0 => simp at hy; subst hy; exact ⟨x, rfl, fun E I F w u hu => TR.toD ha hu⟩
   | i + 1 => simp at hy
def entry2 (f : FuncId) (en : Enters P f) (t u : Ty) (pre : t.D → u.D → Prop) (sep : Bool) (res : t.D → u.D → List AV) (obs : t.D → u.D → List Ob) (ok : ∀ a b, pre a b → GCall P gl f sep [ofD t a, ofD u b] [] (res a b) (obs a b)) : Entry P gl where
 f := f
 lend := false
 en := en
 go := fun args ob0 => match args, ob0 with
   | [x, y], [] => (match toD t x, toD u y with
     | some a, some b => some (pre a b, sep, res a b, obs a b)
     | _, _ => none)
   | _, _ => none
 ok := by
   intro args ob0 p s r o h hp
   split at h <;> try (cases h; done)
   rename_i x y
   split at h <;> try (cases h; done)
   rename_i a b ha hb
   injection h with h; injection h with h1 h2; injection h2 with h2 h3; injection h3 with h3 h4
   subst h1 h2 h3 h4
   refine (ok a b hp).args rfl fun i z hz => ?_
   match i with
   | 0 => simp at hz; subst hz; exact ⟨x, rfl, fun E I F w u hu => TR.toD ha hu⟩
   | 1 => simp at hz; subst hz; exact ⟨y, rfl, fun E I F w u hu => TR.toD hb hu⟩
   | i + 2 => simp at hz
def entry3 (f : FuncId) (en : Enters P f) (t u v : Ty) (pre : t.D → u.D → v.D → Prop) (sep : Bool) (res : t.D → u.D → v.D → List AV) (obs : t.D → u.D → v.D → List Ob) (ok : ∀ a b c, pre a b c → GCall P gl f sep [ofD t a, ofD u b, ofD v c] [] (res a b c) (obs a b c)) : Entry P gl where
 f := f
 lend := false
 en := en
 go := fun args ob0 => match args, ob0 with
   | [x, y, z], [] => (match toD t x, toD u y, toD v z with
     | some a, some b, some c => some (pre a b c, sep, res a b c, obs a b c)
     | _, _, _ => none)
   | _, _ => none
 ok := by
   intro args ob0 p s r o h hp
   split at h <;> try (cases h; done)
   rename_i x y z
   split at h <;> try (cases h; done)
   rename_i a b c ha hb hc
   injection h with h; injection h with h1 h2; injection h2 with h2 h3; injection h3 with h3 h4
   subst h1 h2 h3 h4
   refine (ok a b c hp).args rfl fun i q hq => ?_
   match i with
   | 0 => simp at hq; subst hq; exact ⟨x, rfl, fun E I F w u hu => TR.toD ha hu⟩
   | 1 => simp at hq; subst hq; exact ⟨y, rfl, fun E I F w u hu => TR.toD hb hu⟩
   | 2 => simp at hq; subst hq; exact ⟨z, rfl, fun E I F w u hu => TR.toD hc hu⟩
   | i + 3 => simp at hq
end
end Go.Am

/- The abstract machine, part 29: a caller's data, as typed data. -/
namespace Go.Am
open Go Go.ChangeShapes Go.WideShapes Go.ChangeAt Go.RowKit
def TyOk (P : Program) : TypeId → Ty → Prop
 | T, .int k => P.underlying T = some (.int k)
 | T, .bool => P.underlying T = some .bool
 | T, .str => P.underlying T = some .string
 | T, .sl e => ∃ E, P.underlying T = some (.slice E) ∧ TyOk P E e ∧ P.cellsOf E = e.sz ∧ 0 < e.sz ∧ 0 < P.bytesOf E
 | T, .ar n e => ∃ E, P.underlying T = some (.array n E) ∧ TyOk P E e ∧ P.cellsOf E = e.sz ∧ P.cellsOf T = n * e.sz
 | T, .a2 e => ∃ E, P.underlying T = some (.array 2 E) ∧ TyOk P E e ∧ P.cellsOf E = e.sz ∧ P.cellsOf T = 2 * e.sz
 | _, _ => False
/-- Its numbers are in range. -/
def Rng : (t : Ty) → t.D → Prop
 | .int k, n => inR k n
 | .sl e, xs => ∀ i, (h : i < List.length xs) → Rng e (xs[i]'h)
 | .ar _ e, xs => ∀ i, (h : i < List.length xs) → Rng e (xs[i]'h)
 | .a2 e, x => Rng e x.1 ∧ Rng e x.2
 | _, _ => True
theorem wf_inR {k : IntKind} {n : Int} (h : (Lit.int k n).wf = true) : inR k n := by
 cases k <;> simp [Lit.wf, IntKind.min, IntKind.max, IntKind.signed, IntKind.bits] at h <;> simp only [inR] <;> omega
theorem cell_lt {w : World} {a : Addr} {v : Value} (h : w.cell? a = some v) : a.block < w.heap.size := by
 unfold World.cell? at h
 cases hb : w.heap[a.block]? with
 | none => simp [hb] at h
 | some o => exact (Array.getElem?_eq_some_iff.mp hb).1
theorem build_list {α : Type} {Q : Nat → α → Prop} : ∀ n, (∀ i, i < n → ∃ x, Q i x) → ∃ l : List α, l.length = n ∧ ∀ i (h : i < l.length), Q i l[i]
 | 0, _ => ⟨[], rfl, fun i h => absurd h (Nat.not_lt_zero _)⟩
 | n + 1, h => by
   obtain ⟨l, h1, h2⟩ := build_list n fun i hi => h i (by omega)
   obtain ⟨x, hx⟩ := h n (by omega)
   refine ⟨l ++ [x], by simp [h1], fun i hi => ?_⟩
   by_cases hl : i < l.length
   · rw [List.getElem_append_left hl]; exact h2 i hl
   · rw [List.getElem_append_right (by omega)]
     have : i = n := by simp at hi; omega
     subst this
     simpa using hx
theorem chunks {α : Type} (s : Nat) : ∀ (n : Nat) (cs : List α), cs.length = n * s → ((List.range n).map fun i => (cs.drop (i * s)).take s).flatten = cs
 | 0, cs, h => by
   have : cs = [] := List.eq_nil_of_length_eq_zero (by simpa using h)
   subst this; rfl
 | n + 1, cs, h => by
   rw [List.range_succ_eq_map, List.map_cons, List.flatten_cons, List.map_map]
   have h1 : (cs.drop s).length = n * s := by rw [List.length_drop, h, Nat.succ_mul]; omega
   have ih := chunks s n (cs.drop s) h1
   have e : ((fun i => (cs.drop (i * s)).take s) ∘ Nat.succ) = fun i => ((cs.drop s).drop (i * s)).take s := by
     funext i
     simp only [Function.comp, List.drop_drop]
     congr 2
     rw [Nat.succ_mul]; omega
   rw [e, ih]
   simp
section
variable {H : Type} {enc : TypeId × Value → H} {P : Program} {w : World} {base : Nat} {spare : Nat → Bool} {held : Bool}
theorem weightsAll_mem {e : TypeId} {d : DataW H} {n : Nat} : ∀ {l : List (DataW H)}, d ∈ l → n ∈ d.weights P e → n ∈ DataW.weightsAll P e l
 | [], h, _ => by simp at h
 | y :: l, h, hn => by
   simp only [DataW.weightsAll, List.mem_append]
   rcases List.mem_cons.mp h with rfl | h
   · exact .inl hn
   · exact .inr (weightsAll_mem h hn)
theorem CD_of_trod : ∀ {t : Ty} {T : TypeId} {fuel : Nat} {cs : List Value} {x : DataW H × List MemPlace}, TyOk P T t → (∀ n ∈ x.1.weights P T, n ≤ 140737488355328) → DataW.trod enc P w base spare held fuel T cs = some x → ∃ d : t.D, CD (fun b => b < w.heap.size) w t d cs ∧ Rng t d
 | .int k, T, fuel, cs, x, ht, _, h => by
   obtain ⟨n, rfl, _, hn⟩ := DataW.trod_int ht h
   exact ⟨n, by simp only [CD], by simp only [Rng]; exact wf_inR hn⟩
 | .bool, T, fuel, cs, x, ht, _, h => by
   obtain ⟨b, rfl, _⟩ := DataW.trod_bool ht h
   exact ⟨b, by simp only [CD], by simp only [Rng]⟩
 | .str, T, fuel, cs, x, ht, _, h => by
   obtain ⟨s, rfl, _⟩ := DataW.trod_string ht h
   exact ⟨s, by simp only [CD], by simp only [Rng]⟩
 | .sl e, T, fuel, cs, x, ht, hw, h => by
   obtain ⟨E, h1, h2, h3, h4, h5⟩ := ht
   rcases Go.Deep.open_slice h1 h with ⟨rfl, _⟩ | ⟨a, len, cap, m, n, D, Pl, rfl, hb, hl, hm, hmm, rfl, hx⟩
   · exact ⟨([] : List e.D), by simp only [CD]; exact ⟨none, 0, rfl, ⟨by simp, by simp⟩, fun i hi => absurd hi (by simp)⟩, by simp only [Rng]; exact fun i hi => absurd hi (by simp)⟩
   · have hlm : len ≤ m := by rw [hmm]; split <;> omega
     obtain ⟨xs, hxl, hxs⟩ := build_list (α := e.D) (Q := fun i d => ∃ ecs, Rng e d ∧ (a.block < w.heap.size) ∧ CD (fun b => b < w.heap.size) w e d ecs ∧ CellsAt w (a.add (i * e.sz)) ecs) len fun i hi => by
       obtain ⟨cs', c1, c2⟩ := hx i (by omega)
       obtain ⟨d, hd, hrn⟩ := CD_of_trod (t := e) h2 (fun k hk => hw k (by
         simp only [DataW.weights, h1, List.mem_cons, List.mem_append]
         by_cases hil : i < len
         · exact .inr (.inl (weightsAll_mem (d := D i) (List.mem_map.mpr ⟨i, by simpa using hil, rfl⟩) hk))
         · exact .inr (.inr (weightsAll_mem (d := D i) (List.mem_map.mpr ⟨i - len, by simp; omega, by rw [show len + (i - len) = i by omega]⟩) hk)))) c2
       rw [h3] at c1
       obtain ⟨_, c3, c4⟩ := World.cells?_some c1
       have hat : CellsAt w (a.add (i * e.sz)) cs' := fun j hj => by
         rw [c4 j (by omega)]; simp [hj]
       refine ⟨d, cs', hrn, ?_, hd, hat⟩
       have := hat 0 (by omega)
       have := cell_lt this
       rwa [block_add, block_add] at this
     refine ⟨xs, ?_, by simp only [Rng]; exact fun i hi => (hxs i hi).choose_spec.1⟩
     simp only [CD]
     have hlen : len ≤ 140737488355328 := by
       have := hw ((((List.range len).map D).length + ((List.range (m - len)).map fun j => D (len + j)).length) * P.bytesOf E) (by simp only [DataW.weights, h1]; exact List.mem_cons_self)
       simp only [List.length_map, List.length_range] at this
       have h6 : (len + (m - len)) * 1 ≤ (len + (m - len)) * P.bytesOf E := Nat.mul_le_mul_left _ h5
       omega
     refine ⟨some a, cap, by rw [hxl], ⟨by omega, by omega⟩, fun i hi => ?_⟩
     obtain ⟨ecs, _, g1, g2, g3⟩ := hxs i hi
     exact ⟨a, ecs, rfl, g1, g2, g3⟩
 | .ar n e, T, fuel, cs, x, ht, hw, h => by
   obtain ⟨E, h1, h2, h3, h4⟩ := ht
   obtain ⟨xs, m, _, rfl, hl, hn, hx⟩ := DataW.trod_array h1 h
   rw [h3] at hx
   obtain ⟨ds, hdl, hds⟩ := build_list (α := e.D) (Q := fun i d => CD (fun b => b < w.heap.size) w e d ((cs.drop (i * e.sz)).take e.sz) ∧ Rng e d) n fun i hi => by
     have := hx i hi
     rw [List.getElem?_eq_getElem (by omega)] at this
     refine CD_of_trod (t := e) h2 (fun k hk => hw k ?_) this
     simp only [DataW.weights, h1]
     exact weightsAll_mem (List.mem_map.mpr ⟨_, List.getElem_mem (by omega), rfl⟩) hk
   refine ⟨ds, ?_, by simp only [Rng]; exact fun i hi => (hds i hi).2⟩
   simp only [CD]
   refine ⟨hdl, (List.range n).map fun i => (cs.drop (i * e.sz)).take e.sz, by simp, (chunks e.sz n cs (by rw [hl, h4])).symm, fun i hi hi' => ?_⟩
   simpa using (hds i hi).1
 | .a2 e, T, fuel, cs, x, ht, hw, h => by
   obtain ⟨E, h1, h2, h3, h4⟩ := ht
   obtain ⟨xs, m, _, rfl, hl, hn, hx⟩ := DataW.trod_array h1 h
   rw [h3] at hx
   have g : ∀ i, i < 2 → ∃ d : e.D, CD (fun b => b < w.heap.size) w e d ((cs.drop (i * e.sz)).take e.sz) ∧ Rng e d := fun i hi => by
     have := hx i hi
     rw [List.getElem?_eq_getElem (by omega)] at this
     refine CD_of_trod (t := e) h2 (fun k hk => hw k ?_) this
     simp only [DataW.weights, h1]
     exact weightsAll_mem (List.mem_map.mpr ⟨_, List.getElem_mem (by omega), rfl⟩) hk
   obtain ⟨d0, g0, r0⟩ := g 0 (by omega)
   obtain ⟨d1, g1, r1⟩ := g 1 (by omega)
   refine ⟨(d0, d1), ?_, by simp only [Rng]; exact ⟨r0, r1⟩⟩
   simp only [CD]
   refine ⟨_, _, ?_, g0, g1⟩
   simp only [Nat.zero_mul, List.drop_zero, Nat.one_mul]
   rw [List.take_of_length_le (l := cs.drop e.sz) (by rw [List.length_drop, hl, h4]; omega), List.take_append_drop]
 | .s1 _, _, _, _, _, ht, _, _ => by simp only [TyOk] at ht
 | .s2 _ _, _, _, _, _, ht, _, _ => by simp only [TyOk] at ht
 | .s3 _ _ _, _, _, _, _, ht, _, _ => by simp only [TyOk] at ht
 | .s4 _ _ _ _, _, _, _, _, ht, _, _ => by simp only [TyOk] at ht
/-- An argument, as typed data. -/
theorem arg_ofR {E : Env} {I : Nat → Option Inf} {r : Reach} {b0 : Nat} {t : Ty} {T : TypeId} {v : Value} {d : DataW H} {ps : List MemPlace} (ht : TyOk P T t) (hw : ∀ n ∈ d.weights P T, n ≤ 140737488355328) (hval : Value.okWide P w r b0 T v) (hd : DataW.Trod enc P w base spare held T v d ps) :
   ∃ x : t.D, CD (fun b => b < w.heap.size) w t x v.cells.toList ∧ CR E I (fun b => b < w.heap.size) w (ofD t x) v.cells.toList ∧ Shaped (ofD t x) v ∧ Rng t x := by
 obtain ⟨fuel, hf⟩ := hd
 obtain ⟨x, hx, hrn⟩ := CD_of_trod ht hw hf
 refine ⟨x, hx, CR.ofD hx, ?_, hrn⟩
 cases t with
 | int k =>
   have ht : P.underlying T = some (.int k) := ht
   obtain ⟨n, rfl⟩ := okWide_int ht hval
   simp [Shaped, ofD, AV.isAgg, Value.cells]
 | bool =>
   have ht : P.underlying T = some .bool := ht
   simp only [Value.okWide, ht, Cell.okWide] at hval
   have : ∃ b, v = .bool b := by cases v <;> simp_all [Cell.ok]
   obtain ⟨b, rfl⟩ := this
   simp [Shaped, ofD, AV.isAgg, Value.cells]
 | str =>
   have ht : P.underlying T = some .string := ht
   obtain ⟨s, rfl⟩ := okWide_string ht hval
   simp [Shaped, ofD, AV.isAgg, Value.cells]
 | sl e =>
   obtain ⟨E, h1, _⟩ := ht
   obtain ⟨a, len, cap, rfl⟩ := okWide_slice h1 hval
   simp [Shaped, ofD, AV.isAgg, Value.cells]
 | ar n e =>
   obtain ⟨E, h1, _⟩ := ht
   simp only [Value.okWide, h1] at hval
   obtain ⟨cs, rfl, _⟩ := hval
   simp [Shaped, ofD, AV.isAgg]
 | a2 e =>
   obtain ⟨E, h1, _⟩ := ht
   simp only [Value.okWide, h1] at hval
   obtain ⟨cs, rfl, _⟩ := hval
   simp [Shaped, ofD, AV.isAgg]
 | _ => simp only [TyOk] at ht
theorem arg_of {E : Env} {I : Nat → Option Inf} {r : Reach} {b0 : Nat} {t : Ty} {T : TypeId} {v : Value} {d : DataW H} {ps : List MemPlace} (ht : TyOk P T t) (hw : ∀ n ∈ d.weights P T, n ≤ 140737488355328) (hval : Value.okWide P w r b0 T v) (hd : DataW.Trod enc P w base spare held T v d ps) :
   ∃ x : t.D, CD (fun b => b < w.heap.size) w t x v.cells.toList ∧ CR E I (fun b => b < w.heap.size) w (ofD t x) v.cells.toList ∧ Shaped (ofD t x) v := by
 obtain ⟨x, h1, h2, h3, _⟩ := arg_ofR (E := E) (I := I) ht hw hval hd
 exact ⟨x, h1, h2, h3⟩
end
/-- Lengths that can be. -/
theorem CD.sl_len {F : Nat → Prop} {w : World} {e : Ty} {xs : List e.D} {cs : List Value} (h : CD F w (.sl e) xs cs) : xs.length ≤ 140737488355328 := by
 simp only [CD] at h
 obtain ⟨_, _, _, h, _⟩ := h
 exact h.2
theorem VRs.mk0 {E : Env} {I : Nat → Option Inf} {F : Nat → Prop} {w : World} : VRs E I F w [] [] := by simp only [VRs]
theorem VRs.mk {E : Env} {I : Nat → Option Inf} {F : Nat → Prop} {w : World} {a : AV} {v : Value} {l : List AV} {us : List Value} (h1 : CR E I F w a v.cells.toList) (h2 : Shaped a v) (h3 : VRs E I F w l us) : VRs E I F w (a :: l) (v :: us) := by
 simp only [VRs]; exact ⟨v, us, rfl, h1, h2, h3⟩
/-- A law's contract, for a call out of the blue. -/
theorem law_run {P : Program} {gl : Nat → Option ((t : Ty) × t.D)} {f : FuncId} {args : List AV} {vs : List Value} {w : World} (hv : VRs ⟨fun _ => 0, fun _ => 0⟩ (fun _ => none) (fun b => b < w.heap.size) w args vs) (hg : GlobOk gl (fun b => b < w.heap.size) w)
   (h : GCall P gl f true args [] [.tt] []) : Calls P f vs.toArray w fun e w' => e = .returned (.bool true) ∧ Below w.heap.size w w' := by
 have hI : (St.inf ⟨args, []⟩) = fun _ => none := by funext o; simp [St.inf]
 have hr : Rel ⟨w, fun b => b < w.heap.size, ⟨fun _ => 0, fun _ => 0⟩, 0, gl⟩ ⟨fun _ => 0, fun _ => 0⟩ (fun b => b < w.heap.size) ⟨args, []⟩ ⟨vs.toArray, []⟩ w := by
   refine { defers := trivial, size := by simp [hv.length], tms := ?_, obs := fun o x hx => by simp at hx, apart := fun o ho => by simp [St.live, St.inf] at ho, inj := fun o o' ho => by simp [St.live, St.inf] at ho, frz := fun b hb => hb, new := fun b hb => .inl hb, own := fun o ho => by simp [St.live, St.inf] at ho, os := rfl, tape := rfl, output := rfl, grow := Nat.le_refl _, frame := fun _ _ _ => rfl, glob := hg, stay := fun o i ho => absurd ho (Nat.not_lt_zero _), live0 := fun o ho => absurd ho (Nat.not_lt_zero _) }
   intro i x hx
   rw [hI]
   have := VRs.atT hv i x hx
   exact TR.of_VR this.1 this.2
 refine (h _ _ _ w ⟨vs.toArray, []⟩ (fun b hb => hb) (fun _ => rfl) hg hr).mono ?_
 rintro e w' ⟨E', F', a', rfl, R⟩
 refine ⟨?_, ⟨R.os, R.tape, R.output, R.grow, fun b hb => R.frame b hb fun o ho => absurd ho (Nat.not_lt_zero _)⟩⟩
 have hsz : a'.tmps.size = 1 := R.size
 have h0 := one_cell (show TR E' _ F' w' .tt (a'.tmps.getD 0 undef) from R.tms 0 _ rfl) rfl
 simp only [CR] at h0
 injection h0 with h0 _
 have : retVal a'.tmps = .bool true := by
   unfold retVal
   rw [dif_pos hsz]
   have e : a'.tmps.getD 0 undef = a'.tmps[0] := by simp [Array.getD, hsz]
   rw [← e]; exact h0
 rw [this]
end Go.Am
