/- Part A1 of the proof that the law named in the last file returns true at every input and leaves its arguments as they were; no condition of its own. -/
import Derived.Test.YtlfigncfoiofgaaA0
import Derived.CallsIn
import Derived.OrdersIn
import Derived.LoopIn
import Derived.MapKept
import Derived.Orders
set_option linter.unusedSimpArgs false
set_option linter.unusedVariables false
/- The abstract machine, part 15: copy. -/
namespace Go.Am
open Go
section
variable {X : Cx} {G : En} {E : Env} {F : Nat → Prop} {st : St} {a : Act} {w : World}
/-- A part of an object is written. -/
theorem Rel.storePath (h : Rel G E F st a w) {q ver : Nat} {p : List Nat} {ob0 ob' : Ob} {c c' s v : AV} {t : Sh} {off : Nat} {vs : List Value} (hob : st.ob[q]? = some ob0) (hc : Am.content st q ver = some c)
   (hs : getAt c p = some s) (hset : setAt c p v = some c') (hwc : withContent ob0 c' = some ob') (hsh : v.sh = s.sh) (hpt : PathTo c.sh p t off) (hv1 : CR E st.inf F w v vs)
   {cs' : Array Value} {TT : TypeId} {pre0 mid0 post0 : List Value} (hg0 : w.heap[E.β q]? = some (.cells cs' TT (0, 0))) (hcs0 : cs'.toList = pre0 ++ (mid0 ++ post0)) (hp0 : pre0.length = off) (hm0 : mid0.length = vs.length) :
     Rel G E F (st.setO q ob') a (w.setRow (E.β q) (pre0 ++ (vs ++ post0)).toArray) := by
 obtain ⟨obx, ho1, hi1, hI⟩ := content_spec hc
 rw [hob] at ho1
 injection ho1 with ho1; subst ho1
 obtain ⟨cs, T', c0, rest, g1, g2, g3⟩ := h.content hc
 obtain ⟨q0, pre, mid, post, e1, e2, e3, e4⟩ := CR.path hs hpt g3
 obtain ⟨k1, k2⟩ := e4 v c' _ hset (by rw [hsh, q0]) hv1
 have hml : mid.length = vs.length := by rw [e3.len, hv1.len, hsh]
 rw [hg0] at g1
 injection g1 with g1; injection g1 with g1 gT _; subst g1; subst gT
 have hg1 := hg0
 have hsplit : pre0 ++ (mid0 ++ post0) = pre ++ (mid ++ (post ++ rest)) := by rw [← hcs0, g2, e1]; simp
 obtain ⟨i1, i2⟩ := List.append_inj hsplit (by omega)
 obtain ⟨i3, i4⟩ := List.append_inj i2 (by omega)
 subst i1 i3 i4
 have g1 := hg1
 obtain ⟨s1, s2, s3, s4, s5, s6⟩ := setRow_spec (w := w) (E.β q) cs' (pre0 ++ (vs ++ (post ++ rest))).toArray TT g1
 have hinf : ob'.inf = ob0.inf ∧ OR E st.inf F (w.setRow (E.β q) (pre0 ++ (vs ++ (post ++ rest))).toArray) q ob' := by
   have hFk : ∀ b, F b → F b ∧ (w.setRow (E.β q) (pre0 ++ (vs ++ (post ++ rest))).toArray).heap[b]? = w.heap[b]? := fun b hb =>
     ⟨hb, s6 b (fun e => (h.apart q (by simp [St.live, hI])).1 (e ▸ hb))⟩
   have hc1 := CR.mono (E' := E) (I' := st.inf) hFk (fun q v _ => Ag.refl _ _ _ v) k1
   unfold withContent at hwc
   split at hwc
   · rename_i c1
     injection hwc with hwc; subst hwc
     have hcc : Am.content st q ver = some c1 ∧ ver = 0 := by
       unfold Am.content
       rw [hob]
       simp only
       unfold Am.content at hc
       rw [hob] at hc
       simp only at hc
       split at hc
       · rename_i hv0
         exact ⟨by simp [hv0], by simpa using hv0⟩
       · cases hc
     rw [hcc.1] at hc
     injection hc with hc; subst hc
     have hrest : rest = [] := by
       obtain ⟨cs2, T'', z1, z2⟩ := h.obs _ _ hob
       rw [z1] at g1
       injection g1 with g1; injection g1 with g1 _ _; subst g1
       have l1 := z2.len
       have l2 := g3.len
       rw [g2] at l1
       simp at l1
       exact List.eq_nil_of_length_eq_zero (by omega)
     subst hrest
     refine ⟨by simp [Ob.inf, k2], ?_⟩
     refine ⟨_, TT, s1, ?_⟩
     simpa using hc1
   · rename_i ver' te e0 xs0
     split at hwc <;> try (cases hwc; done)
     rename_i e' n' xs'
     injection hwc with hwc; subst hwc
     have hcc : c = .ar e0 xs0.length xs0 ∧ ver = ver' := by
       unfold Am.content at hc
       rw [hob] at hc
       simp only at hc
       split at hc
       · rename_i hv0
         injection hc with hc
         exact ⟨hc.symm, by simpa using hv0⟩
       · cases hc
     obtain ⟨rfl, rfl⟩ := hcc
     simp only [AV.sh] at k2
     injection k2 with k2 k3
     subst k2
     simp only [CR] at hc1
     have hxl := hc1.len_ar
     have hlen : xs'.length = xs0.length := hxl
     refine ⟨by simp [Ob.inf, k3, hlen], ?_⟩
     obtain ⟨cs2, z1, z2, z3, z4, z5, z6⟩ := h.obs _ _ hob
     rw [z1] at g1
     injection g1 with g1; injection g1 with g1 g1' _; subst g1; subst g1'
     have hesz : e'.sz = e0.sz := by simp only [Ty.sz, k3]
     have htot : (pre0 ++ (vs ++ (post ++ rest))).length = cs2.size := by
       have l3 := congrArg List.length g2
       rw [e1] at l3
       simp only [Array.length_toList, List.length_append] at l3 ⊢
       omega
     refine ⟨_, s1, by omega, z3, ?_, by omega, ?_⟩
     · simp only [List.size_toArray, htot, z4, hesz]
     · have hl := hc1.len
       simp only [Ty.sz, Ty.sh, Sh.sz] at hl
       have htk : ((pre0 ++ (vs ++ (post ++ rest))).toArray.toList).take (xs'.length * e'.sz) = pre0 ++ (vs ++ post) := by
         have : (pre0 ++ (vs ++ (post ++ rest))) = (pre0 ++ (vs ++ post)) ++ rest := by simp
         rw [List.toList_toArray, this]
         have hl' : (pre0 ++ (vs ++ post)).length = xs'.length * e'.sz := by rw [hl, hlen]; rfl
         rw [← hl', List.take_left]
       rw [htk]
       simp only [CD] at hc1 ⊢
       obtain ⟨_, css, b2, b3, b4⟩ := hc1
       exact ⟨trivial, css, by omega, b3, b4⟩
   · cases hwc
 exact h.updOb hob (by rw [hi1]; rfl) hinf.1 s2 s3 s4 s5 s6 hinf.2
end
/-- What 'copy' leaves. -/
def cpy {α : Type} (xs ys : List α) (lo m : Nat) : List α := xs.take lo ++ (ys.take m ++ xs.drop (lo + m))
def effC (X : Cx) (gl : Nat → Option ((t : Ty) × t.D)) (st : St) (o : Oper) : Option (Nat × Ob × AV) :=
 match o.op with
 | .call c => (match c.callee, c.argTypes.toList, c.args.toList with
   | .builtin .copy, [T, _], [d, s] => (match X.tt T, evalA gl st d, evalA gl st s with
     | some ti, some (.sub q ver p lo n), some y => (match ti.ds with
       | .sl te => (match X.tt te, content st q ver, st.ob[q]? with
         | some eti, some cc, some ob => (match getAt cc p with
           | some (.ar e N xs) => (match Nat.beq eti.size e.sz, srcL st e y with
             | true, some ys => (match setAt cc p (.ar e N (cpy xs ys lo (min ys.length n))) with
               | some c' => (match withContent ob c' with
                 | some ob' => some (q, ob', .int .i64 ((min ys.length n : Nat) : Int))
                 | none => none)
               | none => none)
             | _, _ => none)
           | _ => none)
         | _, _, _ => none)
       | _ => none)
     | some ti, some (.own q ver), some y => (match ti.ds with
       | .sl te => (match X.tt te, content st q ver, st.ob[q]?, scOf st q ver with
         | some eti, some cc, some ob, some _ => (match cc with
           | .ar e N xs => (match Nat.beq eti.size e.sz, srcL st e y with
             | true, some ys => (match withContent ob (.ar e N (cpy xs ys 0 (min ys.length N))) with
               | some ob' => some (q, ob', .int .i64 ((min ys.length N : Nat) : Int))
               | none => none)
             | _, _ => none)
           | _ => none)
         | _, _, _, _ => none)
       | _ => none)
     | _, _, _ => none)
   | _, _, _ => none)
 | _ => none
section
variable {X : Cx} {G : En} {E : Env} {F : Nat → Prop} {st : St} {a : Act} {w : World}
theorem CD.cpy {e : Ty} {xs : List e.D} {N lo m : Nat} {cs : List Value} (hx : CD F w (.ar N e) xs cs) (hl : lo + m ≤ N) :
   ∃ A mid B, cs = A ++ (mid ++ B) ∧ A.length = lo * e.sz ∧ mid.length = m * e.sz ∧
     ∀ (ys : List e.D) (news : List Value), CD F w (.ar ys.length e) ys news → m ≤ ys.length → CD F w (.ar N e) (cpy xs ys lo m) (A ++ (news.take (m * e.sz) ++ B)) := by
 have hxl := hx.len_ar
 obtain ⟨pre, A, rest1, a1, a2, a3⟩ := hx.take_drop 0 lo (by omega)
 simp at a2
 have hp : pre = [] := a2
 subst hp
 obtain ⟨pre2, B, post2, b1, b2, b3⟩ := hx.take_drop (lo + m) (N - (lo + m)) (by omega)
 obtain ⟨pre3, mid, post3, c1, c2, c3⟩ := hx.take_drop lo m hl
 have lA : A.length = lo * e.sz := by rw [a3.len]; rfl
 have lB : B.length = (N - (lo + m)) * e.sz := by rw [b3.len]; rfl
 have lM : mid.length = m * e.sz := by rw [c3.len]; rfl
 have lcs : cs.length = N * e.sz := by rw [hx.len]; rfl
 have hA : A = cs.take (lo * e.sz) := by rw [a1]; simp [← lA]
 have hmid : mid = (cs.drop (lo * e.sz)).take (m * e.sz) := by rw [c1, ← c2, List.drop_left, ← lM, List.take_left]
 have hB : B = cs.drop (lo * e.sz + m * e.sz) := by
   have e1 : post2 = [] := by
     apply List.eq_nil_of_length_eq_zero
     have := congrArg List.length b1
     simp only [List.length_append, b2, lB, lcs] at this
     have h3 : N * e.sz = (lo + m) * e.sz + (N - (lo + m)) * e.sz := by rw [← Nat.add_mul]; congr 1; omega
     omega
   subst e1
   rw [b1, ← Nat.add_mul, ← b2, List.drop_left]; simp
 refine ⟨A, mid, B, ?_, lA, lM, fun ys news hy hm => ?_⟩
 · rw [hA, hmid, hB, ← List.drop_drop, List.take_append_drop, List.take_append_drop]
 · obtain ⟨pre4, nm, post4, d1, d2, d3⟩ := hy.take_drop 0 m (by omega)
   simp at d2
   have hp4 : pre4 = [] := d2
   subst hp4
   have lN : nm.length = m * e.sz := by rw [d3.len]; rfl
   have hnm : nm = news.take (m * e.sz) := by rw [d1]; simp [← lN]
   rw [← hnm]
   have h1 := CD.append a3 (CD.append d3 b3)
   simp only [List.drop_zero] at h1
   have e1 : (xs.drop (lo + m)).take (N - (lo + m)) = xs.drop (lo + m) := List.take_of_length_le (by simp; omega)
   rw [e1] at h1
   exact h1.mono_len (by omega)
theorem run_copy_any {te T T' ty : TypeId} {eti : TI} (hu : X.P.underlying T = some (.slice te)) (ok : TI.Ok X.P te eti) {g q n cc : Nat} {u : Value} {cs : Array Value} {TT : TypeId} {A mid B : List Value} {e : Ty} {ys : List e.D}
   (hsz : eti.size = e.sz) (hg : w.heap[g]? = some (.cells cs TT (0, 0))) (hcs : cs.toList = A ++ (mid ++ B)) (hq : 0 < n → q = A.length) (hmid : mid.length = (min ys.length n) * e.sz)
   (hs : (∃ ad c news, u = .slice (some ad) ys.length c ∧ CD F w (.ar ys.length e) ys news ∧ CellsAt w ad news) ∨ (ys = [] ∧ ∃ c, u = .slice none 0 c)) :
   ∃ news, CD F w (.ar ys.length e) ys news ∧ (Builtin.copy_ #[T, T'] ty #[.slice (some ⟨g, q, none⟩) n cc, u]).run X.P w = .ok (.int .i64 ((min ys.length n : Nat) : Int)) (w.setRow g (A ++ (news.take ((min ys.length n) * e.sz) ++ B)).toArray) := by
 have hself : mid = [] → w.setRow g (A ++ ([] ++ B)).toArray = w := by
   intro h0
   have : (A ++ ([] ++ B)).toArray = cs := by apply Array.ext'; rw [hcs, h0]
   rw [this, setRow_self w g cs TT (0, 0) hg]
 rcases hs with ⟨ad, c, news, rfl, hc, hat⟩ | ⟨rfl, c, rfl⟩
 · refine ⟨news, hc, ?_⟩
   generalize hm : min ys.length n = m at *
   have hln : news.length = ys.length * e.sz := by rw [hc.len]; rfl
   have hmle : m ≤ ys.length := by omega
   have hmn : Nat.min ys.length n = m := hm
   have htl : (news.take (m * e.sz)).length = m * e.sz := by
     rw [List.length_take, hln]
     exact Nat.min_eq_left (Nat.mul_le_mul_right _ hmle)
   have hfc : (Builtin.firstCells eti.size m (.slice (some ad) ys.length c)).run X.P w = .ok (news.take (m * e.sz)).toArray w := by
     refine run_firstCells_some w eti.size m ad _ _ (news.take (m * e.sz)) (by rw [htl, hsz]) (fun j v hv => ?_)
     obtain ⟨hj, rfl⟩ := List.getElem?_eq_some_iff.1 hv
     rw [htl] at hj
     have hj' : j < news.length := by rw [hln]; exact Nat.lt_of_lt_of_le hj (Nat.mul_le_mul_right _ hmle)
     rw [hat j hj']
     simp
   by_cases h0 : m = 0
   · subst h0
     have hmid0 : mid = [] := List.eq_nil_of_length_eq_zero (by simpa using hmid)
     simp only [Nat.zero_mul, List.take_zero] at hfc ⊢
     rw [hself hmid0]
     simp [Builtin.copy_, run_underlying hu, Builtin.lenOf, hmn, ok.run_sizeOf, hfc, storeCells, goInt]
   · have hq' := hq (by omega)
     have hcsl : cs.size = A.length + (mid.length + B.length) := by rw [← Array.length_toList, hcs]; simp
     have hst := run_storeCells_at X.P g q TT (news.take (m * e.sz)) 0 cs w hg (by rw [htl]; omega) (fun v hv => hc.one v (List.mem_of_mem_take hv))
     simp only [Nat.add_zero] at hst
     have hfin : (List.take q cs.toList ++ news.take (m * e.sz) ++ List.drop (q + (news.take (m * e.sz)).length) cs.toList) = A ++ (news.take (m * e.sz) ++ B) := by
       rw [htl, hcs, hq', List.take_left, ← hmid, ← List.drop_drop, List.drop_left, List.drop_left, List.append_assoc]
     rw [hfin] at hst
     simp [Builtin.copy_, run_underlying hu, Builtin.lenOf, hmn, ok.run_sizeOf, hfc, hst, goInt]
 · refine ⟨[], by simp [CD], ?_⟩
   have hmid0 : mid = [] := List.eq_nil_of_length_eq_zero (by simpa using hmid)
   have hmn : Nat.min 0 n = 0 := by simp
   simp only [List.length_nil, Nat.zero_min, Nat.zero_mul, List.take_zero]
   rw [hself hmid0]
   simp [Builtin.copy_, run_underlying hu, Builtin.lenOf, ok.run_sizeOf, Builtin.firstCells, storeCells, goInt]
theorem run_effC (hX : X.Ok) (h : Rel G E F st a w) {o : Oper} {q : Nat} {ob : Ob} {v : AV} (he : effC X G.gl st o = some (q, ob, v)) :
   ∃ r w', (execOp a.eval o).run X.P w = .ok (.value r) w' ∧ Rel G E F (st.setO q ob) a w' ∧ TR E (st.setO q ob).inf F w' v r := by
 unfold effC at he
 split at he <;> try (cases he; done)
 rename_i c ho
 split at he <;> try (cases he; done)
 rename_i T T' d s hcal hat hargs
 have harr : c.args = #[d, s] := by rw [← Array.toArray_toList (xs := c.args), hargs]
 have hatt : c.argTypes = #[T, T'] := by rw [← Array.toArray_toList (xs := c.argTypes), hat]
 have hexec : ∀ r w', (Builtin.copy_ #[T, T'] o.type #[a.eval d, a.eval s]).run X.P w = .ok r w' → (execOp a.eval o).run X.P w = .ok (.value r) w' := by
   intro r w' hr
   simp only [execOp, ho, resolve, hcal, Sem.run_bind, Sem.run_pure, Result.andThen_ok, invoke, builtin, harr, hatt, List.map_toArray, List.map_cons, List.map_nil, hr]
 split at he <;> try (cases he; done)
 · rename_i ti q' ver p lo n y hti hd hy
   split at he <;> try (cases he; done)
   rename_i te hds
   split at he <;> try (cases he; done)
   rename_i eti cc ob0 heti hcc hob
   split at he <;> try (cases he; done)
   rename_i e N xs hg
   split at he <;> try (cases he; done)
   rename_i ys hb hys
   split at he <;> try (cases he; done)
   rename_i c' hset
   split at he <;> try (cases he; done)
   rename_i ob' hwc
   injection he with he; injection he with h1 h2; injection h2 with h2 h3; subst h1 h2 h3
   have ok := hX.tt _ _ hti
   have eok := hX.tt _ _ heti
   obtain ⟨dd, hdu, hdd⟩ := ok.under
   rw [hds] at hdd
   cases dd <;> simp only [dsOf] at hdd <;> try (cases hdd; done)
   rename_i ee
   injection hdd with hdd; subst hdd
   have hb := Nat.eq_of_beq_eq_true hb
   have hsrc := srcL_spec h (h.eval hy) hys
   obtain ⟨obx, ho1, hi1, hI⟩ := content_spec hcc
   obtain ⟨off', N', eS, hpa, hlo, qq, capc, hdv, hq, hn⟩ := one_sub (h.eval hd) hI
   obtain ⟨cs0, T0, c00, rest0, g1, g2, g3⟩ := h.content hcc
   have hpt := hpa.arr hg g3
   obtain ⟨hsh, pre, mid0, post, e1, e2, e3, e4⟩ := CR.path hg hpt g3
   simp only [AV.sh] at hsh
   injection hsh with s1 s2
   subst s1 s2
   simp only [CR] at e3
   have hmN : lo + min ys.length n ≤ N' := by omega
   obtain ⟨A, mid, B, f1, f2, f3, f4⟩ := e3.cpy (m := min ys.length n) hmN
   have hcs : cs0.toList = (pre ++ A) ++ (mid ++ (B ++ (post ++ rest0))) := by rw [g2, e1, f1]; simp
   obtain ⟨news, k1, k2⟩ := run_copy_any (T' := T') (ty := o.type) hdu eok (q := qq) (n := n) (cc := capc) (ys := ys) hb g1 hcs (fun h0 => by rw [hq h0]; simp [e2, f2]; rfl) f3 hsrc
   have hv1 : CR E st.inf F w (.ar e N' (cpy xs ys lo (min ys.length n))) (A ++ (news.take ((min ys.length n) * e.sz) ++ B)) := by
     simp only [CR]
     exact f4 ys news k1 (by omega)
   have hln : news.length = ys.length * e.sz := by rw [k1.len]; rfl
   have htl : (news.take ((min ys.length n) * e.sz)).length = (min ys.length n) * e.sz := by
     rw [List.length_take, hln]
     exact Nat.min_eq_left (Nat.mul_le_mul_right _ (Nat.min_le_left _ _))
   have hrel := h.storePath hob hcc hg hset hwc rfl hpt hv1 g1 (pre0 := pre) (mid0 := mid0) (post0 := post ++ rest0) (by rw [g2, e1]; simp) e2 (by rw [f1]; simp [htl, f3])
   refine ⟨_, _, hexec _ _ (by rw [hdv]; exact k2), ?_, TR.int _ _⟩
   have : (pre ++ A ++ (news.take ((min ys.length n) * e.sz) ++ (B ++ (post ++ rest0)))) = (pre ++ ((A ++ (news.take ((min ys.length n) * e.sz) ++ B)) ++ (post ++ rest0))) := by simp
   rw [this]
   exact hrel
 · rename_i ti q' ver y hti hd hy
   split at he <;> try (cases he; done)
   rename_i te hds
   split at he <;> try (cases he; done)
   rename_i eti cc ob0 sc0 heti hcc hob hsc
   split at he <;> try (cases he; done)
   rename_i e N xs
   split at he <;> try (cases he; done)
   rename_i ys hb hys
   split at he <;> try (cases he; done)
   rename_i ob' hwc
   injection he with he; injection he with h1 h2; injection h2 with h2 h3; subst h1 h2 h3
   have ok := hX.tt _ _ hti
   have eok := hX.tt _ _ heti
   obtain ⟨dd, hdu, hdd⟩ := ok.under
   rw [hds] at hdd
   cases dd <;> simp only [dsOf] at hdd <;> try (cases hdd; done)
   rename_i ee
   injection hdd with hdd; subst hdd
   have hb := Nat.eq_of_beq_eq_true hb
   have hsrc := srcL_spec h (h.eval hy) hys
   obtain ⟨obx, ho1, hi1, hI⟩ := content_spec hcc
   have hdv := one_own (h.eval hd) hI
   obtain ⟨cs0, T0, c00, rest0, g1, g2, g3⟩ := h.content hcc
   simp only [CR] at g3
   have hmN : 0 + min ys.length N ≤ N := by omega
   obtain ⟨A, mid, B, f1, f2, f3, f4⟩ := g3.cpy (m := min ys.length N) hmN
   have hA0 : A = [] := List.eq_nil_of_length_eq_zero (by simpa using f2)
   subst hA0
   have hcs : cs0.toList = [] ++ (mid ++ (B ++ rest0)) := by rw [g2, f1]; simp
   obtain ⟨news, k1, k2⟩ := run_copy_any (T' := T') (ty := o.type) hdu eok (q := 0) (n := N) (cc := E.cap q') (ys := ys) hb g1 hcs (fun h0 => rfl) f3 hsrc
   have hv1 : CR E st.inf F w (.ar e N (cpy xs ys 0 (min ys.length N))) ([] ++ (news.take ((min ys.length N) * e.sz) ++ B)) := by
     simp only [CR]
     exact f4 ys news k1 (by omega)
   have hln : news.length = ys.length * e.sz := by rw [k1.len]; rfl
   have htl : (news.take ((min ys.length N) * e.sz)).length = (min ys.length N) * e.sz := by
     rw [List.length_take, hln]
     exact Nat.min_eq_left (Nat.mul_le_mul_right _ (Nat.min_le_left _ _))
   have hrel := h.storePath (p := []) (s := .ar e N xs) (v := .ar e N (cpy xs ys 0 (min ys.length N))) hob hcc rfl rfl hwc rfl (PathTo.here _) hv1 g1 (pre0 := []) (mid0 := c00) (post0 := rest0) (by rw [g2]; simp) rfl (by rw [f1]; simp [htl, f3])
   refine ⟨_, _, hexec _ _ (by rw [hdv]; exact k2), ?_, TR.int _ _⟩
   have : ([] ++ (news.take ((min ys.length N) * e.sz) ++ (B ++ rest0))) = ([] ++ (([] ++ (news.take ((min ys.length N) * e.sz) ++ B)) ++ rest0)) := by simp
   rw [this]
   exact hrel
end
end Go.Am

/- The abstract machine, part 15l: clear. -/
namespace Go.Am
open Go
def effCl (X : Cx) (gl : Nat → Option ((t : Ty) × t.D)) (st : St) (o : Oper) : Option (Nat × Ob) :=
 match o.op with
 | .call c => (match c.callee, c.argTypes.toList, c.args.toList with
   | .builtin .clear, [T], [d] => (match X.tt T, evalA gl st d with
     | some ti, some (.sub q ver p lo n) => (match ti.ds with
       | .sl te => (match X.tt te, content st q ver, st.ob[q]? with
         | some eti, some cc, some ob => (match getAt cc p with
           | some (.ar e N xs) => (match eti.pure, nz eti.size, castL eti.ty e (List.replicate n eti.ty.dflt) with
             | true, true, some ys => (match setAt cc p (.ar e N (cpy xs ys lo n)) with
               | some c' => (match withContent ob c' with
                 | some ob' => some (q, ob')
                 | none => none)
               | none => none)
             | _, _, _ => none)
           | _ => none)
         | _, _, _ => none)
       | _ => none)
     | _, _ => none)
   | _, _, _ => none)
 | _ => none
section
variable {X : Cx} {G : En} {E : Env} {F : Nat → Prop} {st : St} {a : Act} {w : World}
theorem run_clear_any {te T ty : TypeId} {eti : TI} (hu : X.P.underlying T = some (.slice te)) (ok : TI.Ok X.P te eti) (hnz : nz eti.size = true) {g q n cc : Nat} {cs : Array Value} {TT : TypeId} {A mid B : List Value}
   (hone : ∀ v ∈ eti.zv.cells.toList, v.oneCell' = true) (hg : w.heap[g]? = some (.cells cs TT (0, 0))) (hcs : cs.toList = A ++ (mid ++ B)) (hq : 0 < n → q = A.length) (hmid : mid.length = n * eti.size) :
   (Builtin.clear_ #[T] ty #[.slice (some ⟨g, q, none⟩) n cc]).run X.P w = .ok (.tuple #[]) (w.setRow g (A ++ ((List.replicate n eti.zv.cells.toList).flatten ++ B)).toArray) := by
 cases n with
 | zero =>
   have h0 : mid = [] := List.eq_nil_of_length_eq_zero (by simpa using hmid)
   have : (A ++ ((List.replicate 0 eti.zv.cells.toList).flatten ++ B)).toArray = cs := by apply Array.ext'; rw [hcs, h0]; simp
   rw [this, setRow_self w g cs TT (0, 0) hg]
   simp [Builtin.clear_, run_underlying hu]
 | succ n =>
   have hq' := hq (by omega)
   have hzs : eti.zv.cells.size = eti.size := ok.zsz
   have hpos : 0 < eti.zv.cells.toList.length := by
     rw [Array.length_toList, hzs]
     exact Nat.pos_of_ne_zero (nz_spec hnz)
   have hzc : (Builtin.zeroCells eti.zv.cells (n + 1)).toList = (List.replicate (n + 1) eti.zv.cells.toList).flatten := by
     rw [← zero_rows eti.zv.cells.toList hpos (n + 1)]
     simp [Builtin.zeroCells]
   have hlen : (List.replicate (n + 1) eti.zv.cells.toList).flatten.length = (n + 1) * eti.size := flatten_length (by simp) (fun i hi => by simp [hzs])
   have hcsl : cs.size = A.length + (mid.length + B.length) := by rw [← Array.length_toList, hcs]; simp
   have hst := run_storeCells_at X.P g q TT (List.replicate (n + 1) eti.zv.cells.toList).flatten 0 cs w hg (by rw [hlen]; omega) (fun v hv => by
     obtain ⟨c, hc, hvc⟩ := List.mem_flatten.1 hv
     rw [List.mem_replicate] at hc
     exact hone v (by rw [← hc.2]; exact hvc))
   simp only [Nat.add_zero] at hst
   have hfin : (List.take q cs.toList ++ (List.replicate (n + 1) eti.zv.cells.toList).flatten ++ List.drop (q + ((List.replicate (n + 1) eti.zv.cells.toList).flatten).length) cs.toList) = A ++ ((List.replicate (n + 1) eti.zv.cells.toList).flatten ++ B) := by
     rw [hlen, hcs, hq', List.take_left, ← hmid, ← List.drop_drop, List.drop_left, List.drop_left, List.append_assoc]
   rw [hfin] at hst
   simp [Builtin.clear_, run_underlying hu, ok.run_zeroValue, hzc, hst]
theorem run_effCl (hX : X.Ok) (h : Rel G E F st a w) {o : Oper} {q : Nat} {ob : Ob} (he : effCl X G.gl st o = some (q, ob)) :
   ∃ w', (execOp a.eval o).run X.P w = .ok (.value (.tuple #[])) w' ∧ Rel G E F (st.setO q ob) a w' := by
 unfold effCl at he
 split at he <;> try (cases he; done)
 rename_i c ho
 split at he <;> try (cases he; done)
 rename_i T d hcal hat hargs
 have harr : c.args = #[d] := by rw [← Array.toArray_toList (xs := c.args), hargs]
 have hatt : c.argTypes = #[T] := by rw [← Array.toArray_toList (xs := c.argTypes), hat]
 have hexec : ∀ r w', (Builtin.clear_ #[T] o.type #[a.eval d]).run X.P w = .ok r w' → (execOp a.eval o).run X.P w = .ok (.value r) w' := by
   intro r w' hr
   simp only [execOp, ho, resolve, hcal, Sem.run_bind, Sem.run_pure, Result.andThen_ok, invoke, builtin, harr, hatt, List.map_toArray, List.map_cons, List.map_nil, hr]
 split at he <;> try (cases he; done)
 rename_i ti q' ver p lo n hti hd
 split at he <;> try (cases he; done)
 rename_i te hds
 split at he <;> try (cases he; done)
 rename_i eti cc ob0 heti hcc hob
 split at he <;> try (cases he; done)
 rename_i e N xs hg
 split at he <;> try (cases he; done)
 rename_i ys hpu hnz hcast
 split at he <;> try (cases he; done)
 rename_i c' hset
 split at he <;> try (cases he; done)
 rename_i ob' hwc
 injection he with he; injection he with h1 h2; subst h1 h2
 obtain ⟨hee, rfl⟩ := castL_some hcast
 subst hee
 have ok := hX.tt _ _ hti
 have eok := hX.tt _ _ heti
 obtain ⟨dd, hdu, hdd⟩ := ok.under
 rw [hds] at hdd
 cases dd <;> simp only [dsOf] at hdd <;> try (cases hdd; done)
 rename_i ee
 injection hdd with hdd; subst hdd
 obtain ⟨z1, z2⟩ := pure_zero (F := F) (w := w) eok hpu
 obtain ⟨obx, ho1, hi1, hI⟩ := content_spec hcc
 obtain ⟨off', N', eS, hpa, hlo, qq, capc, hdv, hq, hn⟩ := one_sub (h.eval hd) hI
 obtain ⟨cs0, T0, c00, rest0, g1, g2, g3⟩ := h.content hcc
 have hpt := hpa.arr hg g3
 obtain ⟨hsh, pre, mid0, post, e1, e2, e3, e4⟩ := CR.path hg hpt g3
 simp only [AV.sh] at hsh
 injection hsh with s1 s2
 subst s1 s2
 simp only [CR] at e3
 obtain ⟨A, mid, B, f1, f2, f3, f4⟩ := e3.cpy (m := n) hlo
 have hcs : cs0.toList = (pre ++ A) ++ (mid ++ (B ++ (post ++ rest0))) := by rw [g2, e1, f1]; simp
 have k2 := run_clear_any (ty := o.type) hdu eok hnz (q := qq) (n := n) (cc := capc) z1.one g1 hcs (fun h0 => by rw [hq h0]; simp [e2, f2]; rfl) (by rw [f3, z2])
 have k1 := z1.replicate n
 have hln : (List.replicate n eti.zv.cells.toList).flatten.length = n * eti.ty.sz := by rw [k1.len]; rfl
 have hv1 : CR E st.inf F w (.ar eti.ty N' (cpy xs (List.replicate n eti.ty.dflt) lo n)) (A ++ ((List.replicate n eti.zv.cells.toList).flatten ++ B)) := by
   have := f4 (List.replicate n eti.ty.dflt) (List.replicate n eti.zv.cells.toList).flatten (k1.mono_len (by simp)) (by simp)
   rw [List.take_of_length_le (by omega)] at this
   simp only [CR]
   exact this
 have hrel := h.storePath hob hcc hg hset hwc rfl hpt hv1 g1 (pre0 := pre) (mid0 := mid0) (post0 := post ++ rest0) (by rw [g2, e1]; simp) e2 (by rw [f1]; simp [hln, f3])
 refine ⟨_, hexec _ _ (by rw [hdv]; exact k2), ?_⟩
 have : (pre ++ A ++ ((List.replicate n eti.zv.cells.toList).flatten ++ (B ++ (post ++ rest0)))) = (pre ++ ((A ++ ((List.replicate n eti.zv.cells.toList).flatten ++ B)) ++ (post ++ rest0))) := by simp
 rw [this]
 exact hrel
end
end Go.Am

/- The abstract machine, part 16: values, as a callee names them. -/
namespace Go.Am
open Go
/-- Where an object stands in a list. -/
def idx (o : Nat) : List Nat → Option Nat
 | [] => none
 | a :: l => (match Nat.beq o a with
   | true => some 0
   | false => (match idx o l with
     | some i => some (i + 1)
     | none => none))
theorem idx_some {o : Nat} : ∀ {l : List Nat} {i : Nat}, idx o l = some i → l[i]? = some o
 | [], i, h => by simp [idx] at h
 | a :: l, i, h => by
   unfold idx at h
   split at h
   · rename_i e
     injection h with h; subst h
     rw [Nat.eq_of_beq_eq_true e]; rfl
   · split at h
     · rename_i j hj
       injection h with h; subst h
       simpa using idx_some hj
     · cases h
theorem idx_none {o : Nat} : ∀ {l : List Nat}, idx o l = none → ∀ i : Nat, l[i]? ≠ some o
 | [], h, i => by simp
 | a :: l, h, i => by
   unfold idx at h
   split at h
   · cases h
   · rename_i e
     split at h
     · cases h
     · rename_i hj
       cases i with
       | zero => simp; intro he; subst he; simp at e
       | succ i => simpa using idx_none hj i
/-- A slice that is looked at: its elements. -/
def viewL (st : St) (o ver : Nat) (p : List Nat) (lo n : Nat) : Option ((e : Ty) × List e.D) :=
 match scOf st o ver, p with
 | some r, [] => some ⟨r.2.1, (r.2.2.drop lo).take n⟩
 | _, _ => (match content st o ver with
   | some c => (match getAt c p with
     | some (.ar e m xs) => (match Nat.ble m 140737488355328 with
       | true => some ⟨e, (xs.drop lo).take n⟩
       | false => none)
     | _ => none)
   | none => none)
mutual
/-- A value, as a callee names it to which the objects ι are lent; others are looked at. -/
def trA (st : St) (ι : List Nat) : AV → Option AV
 | .own o ver => (match scOf st o ver with
   | some r => (match idx o ι with
     | some i => some (.own i 0)
     | none => some (.sl r.2.1 r.2.2))
   | none => none)
 | .sub o ver p lo n => (match idx o ι with
   | some i => (match content st o ver with
     | some _ => some (.sub i 0 p lo n)
     | none => none)
   | none => (match viewL st o ver p lo n with
     | some r => some (.sl r.1 r.2)
     | none => none))
 | .ptr o ver p => (match content st o ver, idx o ι with
   | some _, some i => some (.ptr i 0 p)
   | _, _ => none)
 | .mp o => (match idx o ι with
   | some i => some (.mp i)
   | none => none)
 | .yld o => (match idx o ι with
   | some i => some (.yld i)
   | none => none)
 | .pv c => (match trA st ι c with
   | some c => some (.pv c)
   | none => none)
 | .agg l => (match trL st ι l with
   | some l => some (.agg l)
   | none => none)
 | .clo f l m => (match trL st ι l, trL st ι m with
   | some l, some m => some (.clo f l m)
   | _, _ => none)
 | .tup _ => none
 | .dead => none
 | .int k n => some (.int k n)
 | .bool b => some (.bool b)
 | .tt => some .tt
 | .ff => some .ff
 | .pb p d => some (.pb p d)
 | .str s => some (.str s)
 | .ar e n xs => some (.ar e n xs)
 | .sl e xs => some (.sl e xs)
 | .pt t x => some (.pt t x)
 | .vv v => some (.vv v)
def trL (st : St) (ι : List Nat) : List AV → Option (List AV)
 | [] => some []
 | a :: l => (match trA st ι a, trL st ι l with
   | some a, some l => some (a :: l)
   | _, _ => none)
end
mutual
theorem trA_sh {st : St} {ι : List Nat} : ∀ {x y : AV}, trA st ι x = some y → y.sh = x.sh ∧ y.isAgg = x.isAgg
 | .own o ver, y, h => by
   simp only [trA] at h
   split at h
   · split at h <;> (injection h with h; subst h; exact ⟨rfl, rfl⟩)
   · cases h
 | .sub o ver p lo n, y, h => by
   simp only [trA] at h
   split at h <;> split at h <;> first | (cases h; done) | (injection h with h; subst h; exact ⟨rfl, rfl⟩)
 | .ptr o ver p, y, h => by
   simp only [trA] at h
   split at h <;> first | (cases h; done) | (injection h with h; subst h; exact ⟨rfl, rfl⟩)
 | .mp o, y, h => by
   simp only [trA] at h
   split at h <;> first | (cases h; done) | (injection h with h; subst h; exact ⟨rfl, rfl⟩)
 | .yld o, y, h => by
   simp only [trA] at h
   split at h <;> first | (cases h; done) | (injection h with h; subst h; exact ⟨rfl, rfl⟩)
 | .pv c, y, h => by
   simp only [trA] at h
   split at h <;> first | (cases h; done) | (injection h with h; subst h; exact ⟨rfl, rfl⟩)
 | .agg l, y, h => by
   simp only [trA] at h
   split at h
   · rename_i l' hl
     injection h with h; subst h
     exact ⟨by simp only [AV.sh, trL_sh hl], rfl⟩
   · cases h
 | .clo f l m, y, h => by
   simp only [trA] at h
   split at h <;> first | (cases h; done) | (injection h with h; subst h; exact ⟨rfl, rfl⟩)
 | .tup _, _, h | .dead, _, h => by simp [trA] at h
 | .int _ _, _, h | .bool _, _, h | .tt, _, h | .ff, _, h | .pb _ _, _, h | .str _, _, h | .ar _ _ _, _, h | .sl _ _, _, h | .pt _ _, _, h | .vv _, _, h => by
   simp only [trA] at h; injection h with h; subst h; exact ⟨rfl, rfl⟩
theorem trL_sh {st : St} {ι : List Nat} : ∀ {l m : List AV}, trL st ι l = some m → AV.shs m = AV.shs l
 | [], m, h => by simp only [trL] at h; injection h with h; subst h; rfl
 | a :: l, m, h => by
   simp only [trL] at h
   split at h
   · rename_i a' l' h1 h2
     injection h with h; subst h
     simp only [AV.shs, (trA_sh h1).1, trL_sh h2]
   · cases h
end
section
variable {G : En} {E : Env} {F : Nat → Prop} {st : St} {a : Act} {w : World}
theorem CD.sl_of {F : Nat → Prop} {w : World} {e : Ty} {ys : List e.D} {ad : Addr} {c : Nat} {news : List Value} (hF : F ad.block) (h : CD F w (.ar ys.length e) ys news) (hat : CellsAt w ad news) (hc : ys.length ≤ c) (hm : ys.length ≤ 140737488355328) :
   CD F w (.sl e) ys [.slice (some ad) ys.length c] := by
 simp only [CD]
 refine ⟨some ad, c, rfl, ⟨hc, hm⟩, fun i hi => ?_⟩
 obtain ⟨pre, mid, post, e1, e2, e3, _⟩ := h.ar_split hi
 refine ⟨ad, mid, rfl, hF, by simpa [List.getD_eq_getElem?_getD, hi] using e3, ?_⟩
 intro j hj
 have := hat (i * e.sz + j) (by rw [e1]; simp only [List.length_append, e2]; omega)
 rw [Addr.add_add, this, ← Option.some_inj, ← List.getElem?_eq_getElem, e1, List.getElem?_append_right (by omega), List.getElem?_append_left (by omega), e2]
 simp [hj]
theorem own_view (h : Rel G E F st a w) {Fc : Nat → Prop} (hF : ∀ b, F b → Fc b) {o ver : Nat} {r : TypeId × (e : Ty) × List e.D} {cs : List Value} (hr : scOf st o ver = some r) (hB : Fc (E.β o))
   (hx : CR E st.inf F w (.own o ver) cs) : CD Fc w (.sl r.2.1) r.2.2 cs := by
 obtain ⟨ho, hI⟩ := scOf_spec hr
 simp only [CR] at hx
 have := hx.2.2 _ _ hI
 subst this
 obtain ⟨cs, g1, g2, g3, g4, g5, g6⟩ := h.obs _ _ ho
 exact CD.sl_of hB (g6.mono fun b hb => ⟨hF b hb, rfl⟩) (cellsAt_block (pre := []) (post := cs.toList.drop (r.2.2.length * r.2.1.sz)) g1 (by simp) rfl) g2 g5
theorem sub_view (h : Rel G E F st a w) {Fc : Nat → Prop} (hF : ∀ b, F b → Fc b) {o ver : Nat} {p : List Nat} {lo n : Nat} {r : (e : Ty) × List e.D} {cs : List Value} (hr : viewL st o ver p lo n = some r) (hB : Fc (E.β o))
   (hx : CR E st.inf F w (.sub o ver p lo n) cs) : CD Fc w (.sl r.1) r.2 cs := by
 have key : ∀ {e : Ty} {m : Nat} {xs : List e.D} {c : AV}, content st o ver = some c → getAt c p = some (.ar e m xs) → m ≤ 140737488355328 → CD Fc w (.sl e) ((xs.drop lo).take n) cs := by
   intro e' m xs c hc hg hm
   obtain ⟨ob, ho, hi, hI⟩ := content_spec hc
   simp only [CR] at hx
   obtain ⟨off', N, eS, hpa, hlo, q, cc, rfl, hq, hn⟩ := hx.2.2 _ hI
   obtain ⟨cs, T', c0, rest, g1, g2, g3⟩ := h.content hc
   have hpt := hpa.arr hg g3
   obtain ⟨hsh, pre, mid, post, e1, e2, e3, _⟩ := CR.path hg hpt g3
   simp only [AV.sh] at hsh
   injection hsh with q1 q2
   subst q1 q2
   simp only [CR] at e3
   have hxl := e3.len_ar
   obtain ⟨pre', mid', post', f1, f2, f3⟩ := e3.take_drop lo n hlo
   have hlen : ((xs.drop lo).take n).length = n := by simp; omega
   have : CD Fc w (.sl e') ((xs.drop lo).take n) [.slice (some ⟨E.β o, q, none⟩) ((xs.drop lo).take n).length cc] := by
     refine CD.sl_of (news := mid') hB (by rw [hlen]; exact f3.mono fun b hb => ⟨hF b hb, rfl⟩) ?_ (by omega) (by omega)
     by_cases h0 : 0 < n
     · rw [hq h0]
       exact cellsAt_block (pre := pre ++ pre') (post := post' ++ (post ++ rest)) g1 (by rw [g2, e1, f1]; simp) (by simp [e2, f2]; rfl)
     · have : n = 0 := by omega
       subst this
       have hm0 : mid' = [] := by
         have := f3.len
         simp [Ty.sz, Ty.sh, Sh.sz] at this
         exact this
       subst hm0
       exact fun j hj => by simp at hj
   rw [hlen] at this
   exact this
 unfold viewL at hr
 split at hr
 · rename_i r' hs
   injection hr with hr; subst hr
   obtain ⟨ho, hI⟩ := scOf_spec hs
   obtain ⟨_, _, _, _, _, g5, _⟩ := h.obs _ _ ho
   refine key (c := .ar r'.2.1 r'.2.2.length r'.2.2) ?_ rfl g5
   simp [content, ho]
 · split at hr <;> try (cases hr; done)
   rename_i c hc
   split at hr <;> try (cases hr; done)
   rename_i e m xs hg
   split at hr <;> try (cases hr; done)
   rename_i hm
   injection hr with hr; subst hr
   exact key hc hg (by simpa using hm)
mutual
theorem CR.tr (h : Rel G E F st a w) {ι : List Nat} {Ec : Env} {Ic : Nat → Option Inf} {Fc : Nat → Prop} (hF : ∀ b, F b → Fc b)
   (hE : ∀ o i, idx o ι = some i → Ec.β i = E.β o ∧ Ec.cap i = E.cap o) (hI : ∀ o i s, idx o ι = some i → Ic i = some s → ∃ v, st.inf o = some ⟨v, s.sh⟩) :
   ∀ {x y : AV} {cs : List Value}, trA st ι x = some y → (∀ o, x.names o = true → st.live o → idx o ι = none → Fc (E.β o)) → CR E st.inf F w x cs → CR Ec Ic Fc w y cs
 | .own o ver, y, cs, ht, hB, hx => by
   simp only [trA] at ht
   split at ht <;> try (cases ht; done)
   rename_i r hr
   have hsp := scOf_spec hr
   split at ht
   · rename_i i hi
     injection ht with ht; subst ht
     simp only [CR] at hx ⊢
     refine ⟨hx.1, hx.2.1, fun n e hn => ?_⟩
     obtain ⟨v, hv⟩ := hI o i _ hi hn
     rw [hsp.2] at hv
     injection hv with hv; injection hv with hv1 hv2
     rw [(hE o i hi).1, (hE o i hi).2]
     exact hx.2.2 n e (by rw [hsp.2, hv2])
   · rename_i hi
     injection ht with ht; subst ht
     simp only [CR]
     exact own_view h hF hr (hB o (by simp [AV.names]) (by simp [St.live, hsp.2]) hi) hx
 | .sub o ver p lo n, y, cs, ht, hB, hx => by
   simp only [trA] at ht
   split at ht
   · rename_i i hi
     split at ht <;> try (cases ht; done)
     rename_i c hc
     injection ht with ht; subst ht
     obtain ⟨ob, ho, _, hIo⟩ := content_spec hc
     simp only [CR] at hx ⊢
     refine ⟨hx.1, hx.2.1, fun s hs => ?_⟩
     obtain ⟨v, hv⟩ := hI o i _ hi hs
     rw [hIo] at hv
     injection hv with hv; injection hv with hv1 hv2
     rw [(hE o i hi).1]
     exact hx.2.2 _ (by rw [hIo, hv2])
   · rename_i hi
     split at ht <;> try (cases ht; done)
     rename_i r hr
     injection ht with ht; subst ht
     simp only [CR]
     have hl : st.live o := by
       unfold viewL at hr
       split at hr
       · rename_i r' hs; simp [St.live, (scOf_spec hs).2]
       · split at hr <;> try (cases hr; done)
         rename_i c hc
         obtain ⟨ob, ho, _, hIo⟩ := content_spec hc
         simp [St.live, hIo]
     exact sub_view h hF hr (hB o (by simp [AV.names]) hl hi) hx
 | .ptr o ver p, y, cs, ht, hB, hx => by
   simp only [trA] at ht
   split at ht <;> try (cases ht; done)
   rename_i c i hc hi
   injection ht with ht; subst ht
   obtain ⟨ob, ho, _, hIo⟩ := content_spec hc
   simp only [CR] at hx ⊢
   refine ⟨hx.1, hx.2.1, fun s hs => ?_⟩
   obtain ⟨v, hv⟩ := hI o i _ hi hs
   rw [hIo] at hv
   injection hv with hv; injection hv with hv1 hv2
   rw [(hE o i hi).1]
   exact hx.2.2 _ (by rw [hIo, hv2])
 | .mp o, y, cs, ht, hB, hx => by
   simp only [trA] at ht
   split at ht <;> try (cases ht; done)
   rename_i i hi
   injection ht with ht; subst ht
   simp only [CR] at hx ⊢
   rw [(hE o i hi).1]; exact hx
 | .yld o, y, cs, ht, hB, hx => by
   simp only [trA] at ht
   split at ht <;> try (cases ht; done)
   rename_i i hi
   injection ht with ht; subst ht
   simp only [CR] at hx ⊢
   rw [(hE o i hi).1]; exact hx
 | .pv c, y, cs, ht, hB, hx => by
   simp only [trA] at ht
   split at ht <;> try (cases ht; done)
   rename_i c' hc
   injection ht with ht; subst ht
   simp only [CR] at hx ⊢
   obtain ⟨ad, cc, h1, h2, h3, h4⟩ := hx
   exact ⟨ad, cc, h1, hF _ h2, CR.tr h hF hE hI hc (fun o ho => hB o (by simpa [AV.names] using ho)) h3, h4⟩
 | .agg l, y, cs, ht, hB, hx => by
   simp only [trA] at ht
   split at ht <;> try (cases ht; done)
   rename_i l' hl
   injection ht with ht; subst ht
   simp only [CR] at hx ⊢
   exact CRs.tr h hF hE hI hl (fun o ho => hB o (by simpa [AV.names] using ho)) hx
 | .clo f l m, y, cs, ht, hB, hx => by
   simp only [trA] at ht
   split at ht <;> try (cases ht; done)
   rename_i l' m' hl hm
   injection ht with ht; subst ht
   simp only [CR] at hx ⊢
   obtain ⟨vs, us, h1, h2, h3⟩ := hx
   exact ⟨vs, us, h1, VRs.tr h hF hE hI hl (fun o ho => hB o (by simp [AV.names, ho])) h2, VRs.tr h hF hE hI hm (fun o ho => hB o (by simp [AV.names, ho])) h3⟩
 | .tup _, _, _, ht, _, _ => by simp [trA] at ht
 | .dead, _, _, ht, _, _ => by simp [trA] at ht
 | .int _ _, _, _, ht, _, hx => by simp only [trA] at ht; injection ht with ht; subst ht; simpa only [CR] using hx
 | .bool _, _, _, ht, _, hx => by simp only [trA] at ht; injection ht with ht; subst ht; simpa only [CR] using hx
 | .tt, _, _, ht, _, hx => by simp only [trA] at ht; injection ht with ht; subst ht; simpa only [CR] using hx
 | .ff, _, _, ht, _, hx => by simp only [trA] at ht; injection ht with ht; subst ht; simpa only [CR] using hx
 | .pb _ _, _, _, ht, _, hx => by simp only [trA] at ht; injection ht with ht; subst ht; simpa only [CR] using hx
 | .str _, _, _, ht, _, hx => by simp only [trA] at ht; injection ht with ht; subst ht; simpa only [CR] using hx
 | .ar _ _ _, _, _, ht, _, hx => by simp only [trA] at ht; injection ht with ht; subst ht; simp only [CR] at hx ⊢; exact hx.mono fun b hb => ⟨hF b hb, rfl⟩
 | .sl _ _, _, _, ht, _, hx => by simp only [trA] at ht; injection ht with ht; subst ht; simp only [CR] at hx ⊢; exact hx.mono fun b hb => ⟨hF b hb, rfl⟩
 | .pt _ _, _, _, ht, _, hx => by
   simp only [trA] at ht; injection ht with ht; subst ht; simp only [CR] at hx ⊢
   obtain ⟨ad, c, h1, h2, h3, h4⟩ := hx
   exact ⟨ad, c, h1, hF _ h2, h3.mono fun b hb => ⟨hF b hb, rfl⟩, h4⟩
 | .vv _, _, _, ht, _, hx => by simp only [trA] at ht; injection ht with ht; subst ht; simpa only [CR] using hx
theorem CRs.tr (h : Rel G E F st a w) {ι : List Nat} {Ec : Env} {Ic : Nat → Option Inf} {Fc : Nat → Prop} (hF : ∀ b, F b → Fc b)
   (hE : ∀ o i, idx o ι = some i → Ec.β i = E.β o ∧ Ec.cap i = E.cap o) (hI : ∀ o i s, idx o ι = some i → Ic i = some s → ∃ v, st.inf o = some ⟨v, s.sh⟩) :
   ∀ {l m : List AV} {cs : List Value}, trL st ι l = some m → (∀ o, AV.namesL o l = true → st.live o → idx o ι = none → Fc (E.β o)) → CRs E st.inf F w l cs → CRs Ec Ic Fc w m cs
 | [], m, cs, ht, _, hx => by simp only [trL] at ht; injection ht with ht; subst ht; simpa only [CRs] using hx
 | x :: l, m, cs, ht, hB, hx => by
   simp only [trL] at ht
   split at ht <;> try (cases ht; done)
   rename_i y l' h1 h2
   injection ht with ht; subst ht
   simp only [CRs] at hx ⊢
   obtain ⟨c1, c2, e0, e1, e2⟩ := hx
   exact ⟨c1, c2, e0, CR.tr h hF hE hI h1 (fun o ho => hB o (by simp [AV.namesL, ho])) e1, CRs.tr h hF hE hI h2 (fun o ho => hB o (by simp [AV.namesL, ho])) e2⟩
theorem VRs.tr (h : Rel G E F st a w) {ι : List Nat} {Ec : Env} {Ic : Nat → Option Inf} {Fc : Nat → Prop} (hF : ∀ b, F b → Fc b)
   (hE : ∀ o i, idx o ι = some i → Ec.β i = E.β o ∧ Ec.cap i = E.cap o) (hI : ∀ o i s, idx o ι = some i → Ic i = some s → ∃ v, st.inf o = some ⟨v, s.sh⟩) :
   ∀ {l m : List AV} {vs : List Value}, trL st ι l = some m → (∀ o, AV.namesL o l = true → st.live o → idx o ι = none → Fc (E.β o)) → VRs E st.inf F w l vs → VRs Ec Ic Fc w m vs
 | [], m, cs, ht, _, hx => by simp only [trL] at ht; injection ht with ht; subst ht; simpa only [VRs] using hx
 | x :: l, m, cs, ht, hB, hx => by
   simp only [trL] at ht
   split at ht <;> try (cases ht; done)
   rename_i y l' h1 h2
   injection ht with ht; subst ht
   simp only [VRs] at hx ⊢
   obtain ⟨v, us, e0, e1, e2, e3⟩ := hx
   refine ⟨v, us, e0, CR.tr h hF hE hI h1 (fun o ho => hB o (by simp [AV.namesL, ho])) e1, ?_, VRs.tr h hF hE hI h2 (fun o ho => hB o (by simp [AV.namesL, ho])) e3⟩
   simpa only [Shaped, (trA_sh h1).2] using e2
end
end
end Go.Am

/- The abstract machine, part 17: a call is entered. -/
namespace Go.Am
open Go
/-- What a call leaves, of its results. -/
def retVal (vs : Array Value) : Value := if h : vs.size = 1 then vs[0] else .tuple vs
/-- A call of f, as its caller sees it: objects ob0 are lent, and come back as the first of ob1; the rest of ob1 is new.
`sep`: what the results lead to is new, or was there for all. -/
def GCall (P : Program) (gl : Nat → Option ((t : Ty) × t.D)) (f : FuncId) (sep : Bool) (args : List AV) (ob0 : List Ob) (res : List AV) (ob1 : List Ob) : Prop :=
 ∀ (E : Env) (F F0 : Nat → Prop) (w : World) (a : Act), (∀ b, F0 b → F b) → (sep = false → F0 = F) → GlobOk gl F0 w → Rel ⟨w, F, E, ob0.length, gl⟩ E F ⟨args, ob0⟩ a w →
   Calls P f a.tmps w fun e w' => ∃ E' F' a', e = .returned (retVal a'.tmps) ∧ Rel ⟨w, F0, E, ob0.length, gl⟩ E' F' ⟨res, ob1⟩ a' w'
/-- An object, as a callee names it. -/
def trO (st : St) (ι : List Nat) (o : Nat) : Option Ob :=
 match st.ob[o]? with
 | some (.bx c) => (match trA st ι c with
   | some c => some (.bx c)
   | none => none)
 | some (.sc _ te e xs) => some (.sc 0 te e xs)
 | some (.mo k v m) => some (.mo k v m)
 | some (.lp C s j c) => (match trA st ι c with
   | some c => some (.lp C s j c)
   | none => none)
 | _ => none
def trOs (st : St) (ι : List Nat) : List Nat → Option (List Ob)
 | [] => some []
 | o :: l => (match trO st ι o, trOs st ι l with
   | some x, some m => some (x :: m)
   | _, _ => none)
theorem trOs_get {st : St} {ι : List Nat} : ∀ {l : List Nat} {m : List Ob}, trOs st ι l = some m → m.length = l.length ∧ ∀ (i : Nat) (x : Ob), m[i]? = some x → ∃ o, l[i]? = some o ∧ trO st ι o = some x
 | [], m, h => by
   simp only [trOs] at h; injection h with h; subst h
   exact ⟨rfl, fun i x hx => by simp at hx⟩
 | o :: l, m, h => by
   simp only [trOs] at h
   split at h <;> try (cases h; done)
   rename_i x' m' h1 h2
   injection h with h; subst h
   obtain ⟨g1, g2⟩ := trOs_get h2
   refine ⟨by simp [g1], fun i x hx => ?_⟩
   cases i with
   | zero => simp at hx; subst hx; exact ⟨o, rfl, h1⟩
   | succ i => simpa using g2 i x (by simpa using hx)
theorem trO_inf {st : St} {ι : List Nat} {o : Nat} {x : Ob} (h : trO st ι o = some x) : ∃ y v s, st.ob[o]? = some y ∧ st.inf o = some ⟨v, s⟩ ∧ x.inf = some ⟨0, s⟩ := by
 unfold trO at h
 split at h
 · rename_i c hc
   split at h <;> try (cases h; done)
   rename_i c' ht
   injection h with h; subst h
   exact ⟨_, 0, c.sh, hc, by simp [St.inf, hc, Ob.inf], by simp [Ob.inf, (trA_sh ht).1]⟩
 · rename_i v te e xs hc
   injection h with h; subst h
   exact ⟨_, v, _, hc, by simp only [St.inf, hc, Ob.inf, Option.bind_some], rfl⟩
 · rename_i k v m hc
   injection h with h; subst h
   exact ⟨_, 0, .cell, hc, by simp [St.inf, hc, Ob.inf], rfl⟩
 · rename_i C s j c hc
   split at h <;> try (cases h; done)
   injection h with h; subst h
   exact ⟨_, 0, .cell, hc, by simp [St.inf, hc, Ob.inf], rfl⟩
 · cases h
def nodupB : List Nat → Bool
 | [] => true
 | a :: l => (match idx a l with
   | some _ => false
   | none => nodupB l)
theorem nodupB_inj : ∀ {l : List Nat}, nodupB l = true → ∀ (i j : Nat) (o : Nat), l[i]? = some o → l[j]? = some o → i = j
 | [], _, i, j, o, h, _ => by simp at h
 | a :: l, hn, i, j, o, h, h' => by
   unfold nodupB at hn
   split at hn
   · cases hn
   · rename_i hi
     cases i <;> cases j
     · rfl
     · rename_i j; simp at h h'; subst h; exact absurd h' (idx_none hi j)
     · rename_i i; simp at h h'; subst h'; exact absurd h (idx_none hi i)
     · simp at h h'; rw [nodupB_inj hn _ _ o h h']
theorem idx_get {ι : List Nat} (hn : nodupB ι = true) {i o : Nat} (h : ι[i]? = some o) : idx o ι = some i := by
 cases hi : idx o ι with
 | none => exact absurd h (idx_none hi i)
 | some j => rw [nodupB_inj hn i j o h (idx_some hi)]
/-- The ghost of the callee. -/
def Env.via (E : Env) (ι : List Nat) : Env := ⟨fun i => E.β (ι.getD i 0), fun i => E.cap (ι.getD i 0)⟩
/-- What may be looked at: what could be before, and the objects that are named by l and not lent. -/
def FV (E : Env) (F : Nat → Prop) (st : St) (ι : List Nat) (l : List AV) (b : Nat) : Prop := F b ∨ ∃ o, st.live o ∧ idx o ι = none ∧ AV.namesL o l = true ∧ E.β o = b
section
variable {G : En} {E : Env} {F : Nat → Prop} {st : St} {a : Act} {w : World}
theorem VRs.length {I : Nat → Option Inf} : ∀ {l : List AV} {vs : List Value}, VRs E I F w l vs → vs.length = l.length
 | [], _, h => by simp only [VRs] at h; subst h; rfl
 | _ :: l, _, h => by
   simp only [VRs] at h
   obtain ⟨v, us, rfl, _, _, h3⟩ := h
   simp [VRs.length h3]
theorem VRs.atT {I : Nat → Option Inf} : ∀ {l : List AV} {vs : List Value}, VRs E I F w l vs → ∀ (i : Nat) (x : AV), l[i]? = some x → CR E I F w x ((vs.toArray.getD i undef).cells.toList) ∧ Shaped x (vs.toArray.getD i undef)
 | [], _, _, i, x, hx => by simp at hx
 | a :: l, _, h, i, x, hx => by
   simp only [VRs] at h
   obtain ⟨v, us, rfl, h1, h2, h3⟩ := h
   cases i with
   | zero => simp at hx; subst hx; simpa using ⟨h1, h2⟩
   | succ i => simpa using VRs.atT h3 i x (by simpa using hx)
/-- What a list of objects names, as values. -/
def obAVs (st : St) : List Nat → List AV
 | [] => []
 | o :: l => (match st.ob[o]? with
   | some (.bx c) => c :: obAVs st l
   | some (.lp _ _ _ c) => c :: obAVs st l
   | _ => obAVs st l)
theorem obAVs_mem' {st : St} {o' : Nat} {y : Ob} {c : AV} (hy : y = .bx c ∨ ∃ C s j, y = .lp C s j c) : ∀ {l : List Nat} {i o : Nat}, l[i]? = some o → st.ob[o]? = some y → c.names o' = true → AV.namesL o' (obAVs st l) = true
 | [], i, o, h, _, _ => by simp at h
 | q :: l, 0, o, h, hc, hn => by
   simp at h; subst h
   rcases hy with rfl | ⟨C, s, j, rfl⟩ <;> simp [obAVs, hc, AV.namesL, hn]
 | q :: l, i + 1, o, h, hc, hn => by
   have := obAVs_mem' hy (i := i) (by simpa using h) hc hn
   unfold obAVs
   split
   · simp [AV.namesL, this]
   · simp [AV.namesL, this]
   · exact this
theorem obAVs_mem {st : St} {o' : Nat} {l : List Nat} {i o : Nat} {c : AV} (h : l[i]? = some o) (hc : st.ob[o]? = some (.bx c)) (hn : c.names o' = true) : AV.namesL o' (obAVs st l) = true := obAVs_mem' (.inl rfl) h hc hn
theorem Rel.enter (h : Rel G E F st a w) {ι : List Nat} {xs ys : List AV} {ob0 : List Ob} {vs : List Value} (hn : nodupB ι = true) (hx : VRs E st.inf F w xs vs) (ht : trL st ι xs = some ys) (ho : trOs st ι ι = some ob0) :
   Rel ⟨w, FV E F st ι (xs ++ obAVs st ι), E.via ι, ob0.length, G.gl⟩ (E.via ι) (FV E F st ι (xs ++ obAVs st ι)) ⟨ys, ob0⟩ ⟨vs.toArray, []⟩ w := by
 obtain ⟨hlen, hget⟩ := trOs_get ho
 have hF : ∀ b, F b → FV E F st ι (xs ++ obAVs st ι) b := fun b hb => .inl hb
 have hE : ∀ o i, idx o ι = some i → (E.via ι).β i = E.β o ∧ (E.via ι).cap i = E.cap o := fun o i hi => by
   simp [Env.via, List.getD_eq_getElem?_getD, idx_some hi]
 have hlive : ∀ i s, (St.inf ⟨ys, ob0⟩) i = some s → ∃ o v, ι[i]? = some o ∧ st.inf o = some ⟨v, s.sh⟩ ∧ s.ver = 0 := fun i s hs => by
   simp only [St.inf] at hs
   cases hx : ob0[i]? with
   | none => simp [hx] at hs
   | some x =>
     obtain ⟨o, h1, h2⟩ := hget i x hx
     obtain ⟨y, v, s', h3, h4, h5⟩ := trO_inf h2
     simp only [hx, Option.bind_some] at hs
     rw [h5] at hs
     injection hs with hs; subst hs
     exact ⟨o, v, h1, h4, rfl⟩
 have hI : ∀ o i s, idx o ι = some i → (St.inf ⟨ys, ob0⟩) i = some s → ∃ v, st.inf o = some ⟨v, s.sh⟩ := fun o i s hi hs => by
   obtain ⟨o', v, h1, h2, _⟩ := hlive i s hs
   rw [idx_some hi] at h1
   injection h1 with h1; subst h1
   exact ⟨v, h2⟩
 have hnapp : ∀ (o : Nat) (l m : List AV), (AV.namesL o l = true ∨ AV.namesL o m = true) → AV.namesL o (l ++ m) = true := by
   intro o l m hh
   induction l with
   | nil => simpa [AV.namesL] using hh
   | cons x l ih =>
     simp only [AV.namesL, List.cons_append, Bool.or_eq_true] at hh ⊢
     rcases hh with (h1 | h1) | h1
     · exact .inl h1
     · exact .inr (ih (.inl h1))
     · exact .inr (ih (.inr h1))
 have hβ : ∀ i o, ι[i]? = some o → (E.via ι).β i = E.β o ∧ (E.via ι).cap i = E.cap o := fun i o hi => hE o i (idx_get hn hi)
 have hV := VRs.tr h hF hE hI ht (fun o h1 h2 h3 => .inr ⟨o, h2, h3, hnapp _ _ _ (.inl h1), rfl⟩) hx
 have hlv : ∀ i, (St.live ⟨ys, ob0⟩) i → ∃ o, ι[i]? = some o ∧ st.live o := fun i hi => by
   obtain ⟨s, hs⟩ := Option.isSome_iff_exists.mp hi
   obtain ⟨o, v, h1, h2, _⟩ := hlive i s hs
   exact ⟨o, h1, by simp [St.live, h2]⟩
 refine { defers := trivial, size := by simp [hV.length], tms := ?_, obs := ?_, apart := ?_, inj := ?_, frz := ?_, new := fun b hb => .inl hb, own := ?_, os := rfl, tape := rfl, output := rfl, grow := Nat.le_refl _, frame := fun _ _ _ => rfl, glob := h.glob.mono fun b hb => ⟨.inl hb, rfl⟩, stay := fun o i _ _ _ => ⟨rfl, rfl⟩, live0 := ?_ }
 · intro i x hx'
   exact TR.of_VR (VRs.atT hV i x hx').1 (VRs.atT hV i x hx').2
 · intro i x hx'
   obtain ⟨o, h1, h2⟩ := hget i x hx'
   obtain ⟨b1, b2⟩ := hβ i o h1
   unfold trO at h2
   split at h2
   · rename_i c hc
     split at h2 <;> try (cases h2; done)
     rename_i c' htc
     injection h2 with h2; subst h2
     obtain ⟨cs, T, g1, g2⟩ := h.obs _ _ hc
     exact ⟨cs, T, by rw [b1]; exact g1, CR.tr h hF hE hI htc (fun q q1 q2 q3 => .inr ⟨q, q2, q3, hnapp _ _ _ (.inr (obAVs_mem h1 hc q1)), rfl⟩) g2⟩
   · rename_i v te e zs hc
     injection h2 with h2; subst h2
     obtain ⟨cs, g1, g2, g3, g4, g5, g6⟩ := h.obs _ _ hc
     exact ⟨cs, by rw [b1]; exact g1, by rw [b2]; exact g2, by rw [b2]; exact g3, by rw [b2]; exact g4, g5, g6.mono fun b hb => ⟨hF b hb, rfl⟩⟩
   · rename_i k v m hc
     injection h2 with h2; subst h2
     obtain ⟨es, cl, g1, g2⟩ := h.obs _ _ hc
     exact ⟨es, cl, by rw [b1]; exact g1, g2.mono fun b hb => ⟨hF b hb, rfl⟩⟩
   · rename_i C s j c hc
     split at h2 <;> try (cases h2; done)
     rename_i c' htc
     injection h2 with h2; subst h2
     obtain ⟨r, vs', g1, g2, g3, g4⟩ := h.obs _ _ hc
     exact ⟨r, vs', by rw [b1]; exact g1, g2, g3, CR.tr h hF hE hI htc (fun q q1 q2 q3 => .inr ⟨q, q2, q3, hnapp _ _ _ (.inr (obAVs_mem' (.inr ⟨C, s, j, rfl⟩) h1 hc q1)), rfl⟩) g4⟩
   · cases h2
 · intro i hi
   obtain ⟨o, h1, h2⟩ := hlv i hi
   rw [(hβ i o h1).1]
   refine ⟨fun hb => ?_, (h.apart o h2).2⟩
   rcases hb with hb | ⟨q, q1, q2, _, q4⟩
   · exact (h.apart o h2).1 hb
   · have := h.inj q o q1 h2 q4
     subst this
     rw [idx_get hn h1] at q2; cases q2
 · intro i j hi hj he
   obtain ⟨o, h1, h2⟩ := hlv i hi
   obtain ⟨o', h1', h2'⟩ := hlv j hj
   rw [(hβ i o h1).1, (hβ j o' h1').1] at he
   have := h.inj o o' h2 h2' he
   subst this
   exact nodupB_inj hn i j o h1 h1'
 · intro b hb
   rcases hb with hb | ⟨q, q1, _, _, q4⟩
   · exact h.frz b hb
   · rw [← q4]; exact (h.apart q q1).2
 · intro i hi
   obtain ⟨o, h1, h2⟩ := hlv i hi
   have : i < ι.length := by
     have := List.getElem?_eq_some_iff.mp h1
     exact this.1
   exact .inr ⟨by simp only [hlen]; exact this, rfl⟩
 · intro i hi
   have hi' : i < ob0.length := hi
   have : ob0[i]? = some ob0[i] := by simp [hi']
   obtain ⟨o, h1, h2⟩ := hget i _ this
   obtain ⟨y, v, s', h3, h4, h5⟩ := trO_inf h2
   simp [St.live, St.inf, hi', h5]
end
end Go.Am

/- The abstract machine, part 18: a call is left. -/
namespace Go.Am
open Go
mutual
/-- A value under other names. -/
def AV.ren (ρ : Nat → Nat → Option (Nat × Nat)) : AV → Option AV
 | .own o ver => (match ρ o ver with
   | some q => some (.own q.1 q.2)
   | none => none)
 | .sub o ver p lo n => (match ρ o ver with
   | some q => some (.sub q.1 q.2 p lo n)
   | none => none)
 | .ptr o ver p => (match ρ o ver with
   | some q => some (.ptr q.1 q.2 p)
   | none => none)
 | .mp o => (match ρ o 0 with
   | some q => some (.mp q.1)
   | none => none)
 | .yld o => (match ρ o 0 with
   | some q => some (.yld q.1)
   | none => none)
 | .pv c => (match AV.ren ρ c with
   | some c => some (.pv c)
   | none => none)
 | .agg l => (match AV.renL ρ l with
   | some l => some (.agg l)
   | none => none)
 | .clo f l m => (match AV.renL ρ l, AV.renL ρ m with
   | some l, some m => some (.clo f l m)
   | _, _ => none)
 | .tup _ => none
 | .dead => none
 | .int k n => some (.int k n)
 | .bool b => some (.bool b)
 | .tt => some .tt
 | .ff => some .ff
 | .pb p d => some (.pb p d)
 | .str s => some (.str s)
 | .ar e n xs => some (.ar e n xs)
 | .sl e xs => some (.sl e xs)
 | .pt t x => some (.pt t x)
 | .vv v => some (.vv v)
def AV.renL (ρ : Nat → Nat → Option (Nat × Nat)) : List AV → Option (List AV)
 | [] => some []
 | a :: l => (match AV.ren ρ a, AV.renL ρ l with
   | some a, some l => some (a :: l)
   | _, _ => none)
end
section
variable {ρ : Nat → Nat → Option (Nat × Nat)} {E E' : Env} {I I' : Nat → Option Inf} {F : Nat → Prop} {w : World}
mutual
theorem AV.ren_sh : ∀ {x y : AV}, x.ren ρ = some y → y.sh = x.sh ∧ y.isAgg = x.isAgg
 | .own o ver, y, h => by
   simp only [AV.ren] at h
   split at h <;> first | (cases h; done) | (injection h with h; subst h; exact ⟨rfl, rfl⟩)
 | .sub o ver p lo n, y, h => by
   simp only [AV.ren] at h
   split at h <;> first | (cases h; done) | (injection h with h; subst h; exact ⟨rfl, rfl⟩)
 | .ptr o ver p, y, h => by
   simp only [AV.ren] at h
   split at h <;> first | (cases h; done) | (injection h with h; subst h; exact ⟨rfl, rfl⟩)
 | .mp o, y, h => by
   simp only [AV.ren] at h
   split at h <;> first | (cases h; done) | (injection h with h; subst h; exact ⟨rfl, rfl⟩)
 | .yld o, y, h => by
   simp only [AV.ren] at h
   split at h <;> first | (cases h; done) | (injection h with h; subst h; exact ⟨rfl, rfl⟩)
 | .pv c, y, h => by
   simp only [AV.ren] at h
   split at h <;> first | (cases h; done) | (injection h with h; subst h; exact ⟨rfl, rfl⟩)
 | .agg l, y, h => by
   simp only [AV.ren] at h
   split at h
   · rename_i l' hl
     injection h with h; subst h
     exact ⟨by simp only [AV.sh, AV.renL_sh hl], rfl⟩
   · cases h
 | .clo f l m, y, h => by
   simp only [AV.ren] at h
   split at h <;> first | (cases h; done) | (injection h with h; subst h; exact ⟨rfl, rfl⟩)
 | .tup _, _, h | .dead, _, h => by simp [AV.ren] at h
 | .int _ _, _, h | .bool _, _, h | .tt, _, h | .ff, _, h | .pb _ _, _, h | .str _, _, h | .ar _ _ _, _, h | .sl _ _, _, h | .pt _ _, _, h | .vv _, _, h => by
   simp only [AV.ren] at h; injection h with h; subst h; exact ⟨rfl, rfl⟩
theorem AV.renL_sh : ∀ {l m : List AV}, AV.renL ρ l = some m → AV.shs m = AV.shs l
 | [], m, h => by simp only [AV.renL] at h; injection h with h; subst h; rfl
 | a :: l, m, h => by
   simp only [AV.renL] at h
   split at h
   · rename_i a' l' h1 h2
     injection h with h; subst h
     simp only [AV.shs, (AV.ren_sh h1).1, AV.renL_sh h2]
   · cases h
end
/-- Names that say the same. -/
def RnOk (ρ : Nat → Nat → Option (Nat × Nat)) (E E' : Env) (I I' : Nat → Option Inf) : Prop :=
 ∀ i v q, ρ i v = some q → E'.β q.1 = E.β i ∧ E'.cap q.1 = E.cap i ∧ ∀ s, I' q.1 = some ⟨q.2, s⟩ → I i = some ⟨v, s⟩
mutual
theorem CR.ren (hR : RnOk ρ E E' I I') : ∀ {x y : AV} {cs : List Value}, x.ren ρ = some y → CR E I F w x cs → CR E' I' F w y cs
 | .own o ver, y, cs, ht, hx => by
   simp only [AV.ren] at ht
   split at ht <;> try (cases ht; done)
   rename_i q hq
   injection ht with ht; subst ht
   obtain ⟨r1, r2, r3⟩ := hR _ _ _ hq
   simp only [CR] at hx ⊢
   exact ⟨hx.1, hx.2.1, fun n e hn => by rw [r1, r2]; exact hx.2.2 n e (r3 _ hn)⟩
 | .sub o ver p lo n, y, cs, ht, hx => by
   simp only [AV.ren] at ht
   split at ht <;> try (cases ht; done)
   rename_i q hq
   injection ht with ht; subst ht
   obtain ⟨r1, r2, r3⟩ := hR _ _ _ hq
   simp only [CR] at hx ⊢
   exact ⟨hx.1, hx.2.1, fun s hs => by rw [r1]; exact hx.2.2 _ (r3 _ hs)⟩
 | .ptr o ver p, y, cs, ht, hx => by
   simp only [AV.ren] at ht
   split at ht <;> try (cases ht; done)
   rename_i q hq
   injection ht with ht; subst ht
   obtain ⟨r1, r2, r3⟩ := hR _ _ _ hq
   simp only [CR] at hx ⊢
   exact ⟨hx.1, hx.2.1, fun s hs => by rw [r1]; exact hx.2.2 _ (r3 _ hs)⟩
 | .mp o, y, cs, ht, hx => by
   simp only [AV.ren] at ht
   split at ht <;> try (cases ht; done)
   rename_i q hq
   injection ht with ht; subst ht
   obtain ⟨r1, r2, r3⟩ := hR _ _ _ hq
   simp only [CR] at hx ⊢
   rw [r1]; exact hx
 | .yld o, y, cs, ht, hx => by
   simp only [AV.ren] at ht
   split at ht <;> try (cases ht; done)
   rename_i q hq
   injection ht with ht; subst ht
   obtain ⟨r1, r2, r3⟩ := hR _ _ _ hq
   simp only [CR] at hx ⊢
   rw [r1]; exact hx
 | .pv c, y, cs, ht, hx => by
   simp only [AV.ren] at ht
   split at ht <;> try (cases ht; done)
   rename_i c' hc
   injection ht with ht; subst ht
   simp only [CR] at hx ⊢
   obtain ⟨ad, cc, h1, h2, h3, h4⟩ := hx
   exact ⟨ad, cc, h1, h2, CR.ren hR hc h3, h4⟩
 | .agg l, y, cs, ht, hx => by
   simp only [AV.ren] at ht
   split at ht <;> try (cases ht; done)
   rename_i l' hl
   injection ht with ht; subst ht
   simp only [CR] at hx ⊢
   exact CRs.ren hR hl hx
 | .clo f l m, y, cs, ht, hx => by
   simp only [AV.ren] at ht
   split at ht <;> try (cases ht; done)
   rename_i l' m' hl hm
   injection ht with ht; subst ht
   simp only [CR] at hx ⊢
   obtain ⟨vs, us, h1, h2, h3⟩ := hx
   exact ⟨vs, us, h1, VRs.ren hR hl h2, VRs.ren hR hm h3⟩
 | .tup _, _, _, ht, _ => by simp [AV.ren] at ht
 | .dead, _, _, ht, _ => by simp [AV.ren] at ht
 | .int _ _, _, _, ht, hx => by simp only [AV.ren] at ht; injection ht with ht; subst ht; simpa only [CR] using hx
 | .bool _, _, _, ht, hx => by simp only [AV.ren] at ht; injection ht with ht; subst ht; simpa only [CR] using hx
 | .tt, _, _, ht, hx => by simp only [AV.ren] at ht; injection ht with ht; subst ht; simpa only [CR] using hx
 | .ff, _, _, ht, hx => by simp only [AV.ren] at ht; injection ht with ht; subst ht; simpa only [CR] using hx
 | .pb _ _, _, _, ht, hx => by simp only [AV.ren] at ht; injection ht with ht; subst ht; simpa only [CR] using hx
 | .str _, _, _, ht, hx => by simp only [AV.ren] at ht; injection ht with ht; subst ht; simpa only [CR] using hx
 | .ar _ _ _, _, _, ht, hx => by simp only [AV.ren] at ht; injection ht with ht; subst ht; simpa only [CR] using hx
 | .sl _ _, _, _, ht, hx => by simp only [AV.ren] at ht; injection ht with ht; subst ht; simpa only [CR] using hx
 | .pt _ _, _, _, ht, hx => by simp only [AV.ren] at ht; injection ht with ht; subst ht; simpa only [CR] using hx
 | .vv _, _, _, ht, hx => by simp only [AV.ren] at ht; injection ht with ht; subst ht; simpa only [CR] using hx
theorem CRs.ren (hR : RnOk ρ E E' I I') : ∀ {l m : List AV} {cs : List Value}, AV.renL ρ l = some m → CRs E I F w l cs → CRs E' I' F w m cs
 | [], m, cs, ht, hx => by simp only [AV.renL] at ht; injection ht with ht; subst ht; simpa only [CRs] using hx
 | x :: l, m, cs, ht, hx => by
   simp only [AV.renL] at ht
   split at ht <;> try (cases ht; done)
   rename_i y l' h1 h2
   injection ht with ht; subst ht
   simp only [CRs] at hx ⊢
   obtain ⟨c1, c2, e0, e1, e2⟩ := hx
   exact ⟨c1, c2, e0, CR.ren hR h1 e1, CRs.ren hR h2 e2⟩
theorem VRs.ren (hR : RnOk ρ E E' I I') : ∀ {l m : List AV} {vs : List Value}, AV.renL ρ l = some m → VRs E I F w l vs → VRs E' I' F w m vs
 | [], m, cs, ht, hx => by simp only [AV.renL] at ht; injection ht with ht; subst ht; simpa only [VRs] using hx
 | x :: l, m, cs, ht, hx => by
   simp only [AV.renL] at ht
   split at ht <;> try (cases ht; done)
   rename_i y l' h1 h2
   injection ht with ht; subst ht
   simp only [VRs] at hx ⊢
   obtain ⟨v, us, e0, e1, e2, e3⟩ := hx
   refine ⟨v, us, e0, CR.ren hR h1 e1, ?_, VRs.ren hR h2 e3⟩
   simpa only [Shaped, (AV.ren_sh h1).2] using e2
end
end
mutual
/-- Are all names less than n? -/
def AV.under (n : Nat) : AV → Bool
 | .own o _ => Nat.blt o n
 | .sub o _ _ _ _ => Nat.blt o n
 | .ptr o _ _ => Nat.blt o n
 | .mp o => Nat.blt o n
 | .yld o => Nat.blt o n
 | .pv c => c.under n
 | .agg l => AV.underL n l
 | .clo _ l m => AV.underL n l && AV.underL n m
 | .tup l => AV.underL n l
 | _ => true
def AV.underL (n : Nat) : List AV → Bool
 | [] => true
 | a :: l => a.under n && AV.underL n l
end
mutual
theorem AV.under_names {n o : Nat} : ∀ {a : AV}, a.under n = true → a.names o = true → o < n
 | .own _ _, h, h' | .sub _ _ _ _ _, h, h' | .ptr _ _ _, h, h' | .mp _, h, h' | .yld _, h, h' => by
   simp only [AV.under, Nat.blt_eq] at h
   simp only [AV.names] at h'
   have := Nat.eq_of_beq_eq_true h'
   omega
 | .pv c, h, h' => AV.under_names (a := c) (by simpa only [AV.under] using h) (by simpa only [AV.names] using h')
 | .agg l, h, h' => AV.under_namesL (l := l) (by simpa only [AV.under] using h) (by simpa only [AV.names] using h')
 | .tup l, h, h' => AV.under_namesL (l := l) (by simpa only [AV.under] using h) (by simpa only [AV.names] using h')
 | .clo _ l m, h, h' => by
   simp only [AV.under, Bool.and_eq_true] at h
   simp only [AV.names, Bool.or_eq_true] at h'
   rcases h' with h' | h'
   · exact AV.under_namesL h.1 h'
   · exact AV.under_namesL h.2 h'
 | .int _ _, _, h | .bool _, _, h | .tt, _, h | .ff, _, h | .pb _ _, _, h | .str _, _, h | .ar _ _ _, _, h | .sl _ _, _, h | .pt _ _, _, h | .vv _, _, h | .dead, _, h => by simp [AV.names] at h
theorem AV.under_namesL {n o : Nat} : ∀ {l : List AV}, AV.underL n l = true → AV.namesL o l = true → o < n
 | [], _, h => by simp [AV.namesL] at h
 | a :: l, h, h' => by
   simp only [AV.underL, Bool.and_eq_true] at h
   simp only [AV.namesL, Bool.or_eq_true] at h'
   rcases h' with h' | h'
   · exact AV.under_names h.1 h'
   · exact AV.under_namesL h.2 h'
end
def Ob.under (n : Nat) : Ob → Bool
 | .bx c => c.under n
 | .lp _ _ _ c => c.under n
 | _ => true
def Ob.underL (n : Nat) : List Ob → Bool
 | [] => true
 | a :: l => a.under n && Ob.underL n l
theorem AV.underL_get {n : Nat} : ∀ {l : List AV} {i : Nat} {x : AV}, AV.underL n l = true → l[i]? = some x → x.under n = true
 | [], i, x, _, h => by simp at h
 | a :: l, 0, x, h, hx => by simp at hx; subst hx; simp only [AV.underL, Bool.and_eq_true] at h; exact h.1
 | a :: l, i + 1, x, h, hx => by simp only [AV.underL, Bool.and_eq_true] at h; exact AV.underL_get h.2 (by simpa using hx)
theorem Ob.underL_get {n : Nat} : ∀ {l : List Ob} {i : Nat} {x : Ob}, Ob.underL n l = true → l[i]? = some x → x.under n = true
 | [], i, x, _, h => by simp at h
 | a :: l, 0, x, h, hx => by simp at hx; subst hx; simp only [Ob.underL, Bool.and_eq_true] at h; exact h.1
 | a :: l, i + 1, x, h, hx => by simp only [Ob.underL, Bool.and_eq_true] at h; exact Ob.underL_get h.2 (by simpa using hx)
end Go.Am

/- The abstract machine, part 19: the caller goes on. -/
namespace Go.Am
open Go
def Ob.cver : Ob → Nat
 | .sc v _ _ _ => v
 | _ => 0
/-- The version with which a lent object comes back. -/
def backO (st : St) (o : Nat) (x : Ob) : Option (Nat × Prop) :=
 match st.ob[o]?, x with
 | some (.bx c), .bx c' => (match Sh.beq c'.sh c.sh with
   | true => some (0, True)
   | false => none)
 | some (.sc v _ e xs), .sc v' _ e' xs' => (match v' with
   | 0 => (match Sh.beq e'.sh e.sh with
     | true => some (v, xs'.length = xs.length)
     | false => none)
   | _ + 1 => (match st.noVer o (v + 1) with
     | true => some (v + 1, True)
     | false => none))
 | some (.mo _ _ _), .mo _ _ _ => some (0, True)
 | some (.lp _ _ _ _), .lp _ _ _ _ => some (0, True)
 | _, _ => none
def backs (st : St) : List Nat → List Ob → Option (List Nat × Prop)
 | [], _ => some ([], True)
 | _ :: _, [] => none
 | o :: ι, x :: l => (match backO st o x, backs st ι l with
   | some r, some s => some (r.1 :: s.1, r.2 ∧ s.2)
   | _, _ => none)
def BackOk (st : St) (o : Nat) (x : Ob) (v : Nat) : Prop :=
 (∃ s, st.inf o = some ⟨v, s⟩ ∧ x.inf = some ⟨0, s⟩) ∨ ((∃ s, x.inf = some s) ∧ st.noVer o v = true ∧ v ≠ 0)
theorem backO_ok {st : St} {o : Nat} {x : Ob} {v : Nat} {p : Prop} (h : backO st o x = some (v, p)) (hp : p) : BackOk st o x v := by
 unfold backO at h
 split at h
 · rename_i c c' ho
   split at h <;> try (cases h; done)
   rename_i hs
   injection h with h; injection h with h1 h2; subst h1
   exact .inl ⟨c.sh, by simp [St.inf, ho, Ob.inf], by simp [Ob.inf, Sh.eq_of_beq _ _ hs]⟩
 · rename_i v0 te e xs v' te' e' xs' ho
   split at h
   · split at h <;> try (cases h; done)
     rename_i hs
     injection h with h; injection h with h1 h2; subst h1 h2
     exact .inl ⟨.arr xs.length e.sh, by simp only [St.inf, ho, Ob.inf, Option.bind_some], by simp [Ob.inf, Sh.eq_of_beq _ _ hs, hp]⟩
   · split at h <;> try (cases h; done)
     rename_i hs
     injection h with h; injection h with h1 h2; subst h1
     exact .inr ⟨⟨_, rfl⟩, hs, Nat.succ_ne_zero _⟩
 · rename_i ho
   injection h with h; injection h with h1 h2; subst h1
   exact .inl ⟨.cell, by simp [St.inf, ho, Ob.inf], rfl⟩
 · rename_i ho
   injection h with h; injection h with h1 h2; subst h1
   exact .inl ⟨.cell, by simp [St.inf, ho, Ob.inf], rfl⟩
 · cases h
theorem backs_ok {st : St} : ∀ {ι : List Nat} {l : List Ob} {r : List Nat × Prop}, backs st ι l = some r → r.2 → r.1.length = ι.length ∧ ∀ (i o : Nat), ι[i]? = some o → ∃ x v, l[i]? = some x ∧ r.1[i]? = some v ∧ BackOk st o x v
 | [], l, r, h, hp => by
   simp only [backs] at h; injection h with h; subst h
   exact ⟨rfl, fun i o hi => by simp at hi⟩
 | o :: ι, [], r, h, hp => by simp [backs] at h
 | o :: ι, x :: l, r, h, hp => by
   simp only [backs] at h
   split at h <;> try (cases h; done)
   rename_i r1 s1 h1 h2
   injection h with h; subst h
   obtain ⟨g1, g2⟩ := backs_ok h2 hp.2
   refine ⟨by simp [g1], fun i q hi => ?_⟩
   cases i with
   | zero => simp at hi; subst hi; exact ⟨x, r1.1, rfl, rfl, backO_ok h1 hp.1⟩
   | succ i => simpa using g2 i q (by simpa using hi)
/-- The names of the callee, as the caller names them. -/
def rnOf (ι vers : List Nat) (ob1 : List Ob) (nid : Nat) (i v : Nat) : Option (Nat × Nat) :=
 match ι[i]?, ob1[i]?, vers[i]? with
 | some o, some x, some u => (match Nat.beq v x.cver with
   | true => some (o, u)
   | false => none)
 | some _, _, _ => none
 | none, _, _ => some (nid + (i - ι.length), v)
def renO (ρ : Nat → Nat → Option (Nat × Nat)) (ver : Nat) : Ob → Option Ob
 | .bx c => (match ver, AV.ren ρ c with
   | 0, some c => some (.bx c)
   | _, _ => none)
 | .sc _ te e xs => some (.sc ver te e xs)
 | .mo k v m => (match ver with
   | 0 => some (.mo k v m)
   | _ => none)
 | .lp C s j c => (match ver, AV.ren ρ c with
   | 0, some c => some (.lp C s j c)
   | _, _ => none)
 | .gone => some .gone
def renOs (ρ : Nat → Nat → Option (Nat × Nat)) : List Nat → List Ob → Option (List Ob)
 | _, [] => some []
 | [], x :: l => (match renO ρ x.cver x, renOs ρ [] l with
   | some y, some m => some (y :: m)
   | _, _ => none)
 | v :: vs, x :: l => (match renO ρ v x, renOs ρ vs l with
   | some y, some m => some (y :: m)
   | _, _ => none)
theorem renO_inf {ρ : Nat → Nat → Option (Nat × Nat)} {ver : Nat} {x y : Ob} (h : renO ρ ver x = some y) : y.inf = (x.inf).map fun s => ⟨ver, s.sh⟩ := by
 cases x with
 | bx c =>
   simp only [renO] at h
   split at h <;> try (cases h; done)
   rename_i c' hc
   injection h with h; subst h
   simp [Ob.inf, (AV.ren_sh hc).1]
 | sc v te e xs => simp only [renO] at h; injection h with h; subst h; rfl
 | mo k v m =>
   simp only [renO] at h
   split at h <;> try (cases h; done)
   injection h with h; subst h; rfl
 | lp C s j c =>
   simp only [renO] at h
   split at h <;> try (cases h; done)
   injection h with h; subst h; rfl
 | gone => simp only [renO] at h; injection h with h; subst h; rfl
theorem Ob.inf_cver {x : Ob} {s : Inf} (h : x.inf = some s) : s.ver = x.cver := by
 cases x <;> simp [Ob.inf] at h <;> subst h <;> rfl
theorem renOs_get {ρ : Nat → Nat → Option (Nat × Nat)} : ∀ {vs : List Nat} {l m : List Ob}, renOs ρ vs l = some m → m.length = l.length ∧ ∀ (i : Nat) (y : Ob), m[i]? = some y → ∃ x, l[i]? = some x ∧ renO ρ ((vs[i]?).getD x.cver) x = some y
 | vs, [], m, h => by
   have : m = [] := by cases vs <;> (simp only [renOs] at h; injection h with h; exact h.symm)
   subst this
   exact ⟨rfl, fun i y hi => by simp at hi⟩
 | [], x :: l, m, h => by
   simp only [renOs] at h
   split at h <;> try (cases h; done)
   rename_i y m' h1 h2
   injection h with h; subst h
   obtain ⟨g1, g2⟩ := renOs_get h2
   refine ⟨by simp [g1], fun i z hi => ?_⟩
   cases i with
   | zero => simp at hi; subst hi; exact ⟨x, rfl, by simpa using h1⟩
   | succ i => simpa using g2 i z (by simpa using hi)
 | v :: vs, x :: l, m, h => by
   simp only [renOs] at h
   split at h <;> try (cases h; done)
   rename_i y m' h1 h2
   injection h with h; subst h
   obtain ⟨g1, g2⟩ := renOs_get h2
   refine ⟨by simp [g1], fun i z hi => ?_⟩
   cases i with
   | zero => simp at hi; subst hi; exact ⟨x, rfl, by simpa using h1⟩
   | succ i => simpa using g2 i z (by simpa using hi)
/-- The caller's objects behind the call. -/
def mergeO (ι : List Nat) (obN : List Ob) (sep : Bool) (l : List AV) : Nat → List Ob → List Ob
 | _, [] => []
 | q, x :: m => (match idx q ι with
   | some i => obN.getD i .gone
   | none => (match sep, AV.namesL q l with
     | false, true => .gone
     | _, _ => x)) :: mergeO ι obN sep l (q + 1) m
theorem mergeO_get {ι : List Nat} {obN : List Ob} {sep : Bool} {l : List AV} : ∀ {m : List Ob} {q j : Nat}, (mergeO ι obN sep l q m)[j]? = (m[j]?).map fun x => (match idx (q + j) ι with
   | some i => obN.getD i .gone
   | none => (match sep, AV.namesL (q + j) l with
     | false, true => .gone
     | _, _ => x))
 | [], q, j => by simp [mergeO]
 | x :: m, q, 0 => by simp [mergeO]
 | x :: m, q, j + 1 => by
   simp only [mergeO, List.getElem?_cons_succ, mergeO_get (m := m)]
   rw [show q + 1 + j = q + (j + 1) by omega]
theorem mergeO_length {ι : List Nat} {obN : List Ob} {sep : Bool} {l : List AV} : ∀ {m : List Ob} {q : Nat}, (mergeO ι obN sep l q m).length = m.length
 | [], q => rfl
 | x :: m, q => by simp [mergeO, mergeO_length]
/-- Is no lost object among the first m? -/
def keepLow (ι : List Nat) (l : List AV) : Nat → Bool
 | 0 => true
 | m + 1 => (match idx m ι with
   | some _ => true
   | none => !AV.namesL m l) && keepLow ι l m
theorem keepLow_spec {ι : List Nat} {l : List AV} : ∀ {m o : Nat}, keepLow ι l m = true → o < m → idx o ι = none → AV.namesL o l = false
 | 0, o, _, h, _ => absurd h (Nat.not_lt_zero _)
 | m + 1, o, h, ho, hi => by
   simp only [keepLow, Bool.and_eq_true] at h
   by_cases e : o = m
   · subst e
     have := h.1
     rw [hi] at this
     simpa using this
   · exact keepLow_spec h.2 (by omega) hi
def leaveA (m0 : Nat) (st : St) (ι : List Nat) (l : List AV) (sep : Bool) (res : List AV) (ob1 : List Ob) : Option (St × List AV × Prop) :=
 match backs st ι ob1 with
 | some r => (match AV.renL (rnOf ι r.1 ob1 st.ob.length) res, renOs (rnOf ι r.1 ob1 st.ob.length) r.1 ob1 with
   | some res', some obN => (match AV.underL st.ob.length st.tm, Ob.underL st.ob.length st.ob, sep || keepLow ι l m0 with
     | true, true, true => some ({ tm := st.tm, ob := mergeO ι obN sep l 0 st.ob ++ obN.drop ι.length }, res', r.2)
     | _, _, _ => none)
   | _, _ => none)
 | none => none
def resA : List AV → AV
 | [x] => x
 | l => .tup l
/-- Which of the callee's objects this is. -/
def ciOf (ι : List Nat) (nid q : Nat) : Option Nat :=
 match idx q ι with
 | some i => some i
 | none => if q < nid then none else some (ι.length + (q - nid))
def backE (E E' : Env) (ι : List Nat) (nid : Nat) : Env :=
 ⟨fun q => (match ciOf ι nid q with
   | some i => E'.β i
   | none => E.β q), fun q => (match ciOf ι nid q with
   | some i => E'.cap i
   | none => E.cap q)⟩
section
variable {G : En} {E : Env} {F : Nat → Prop} {st : St} {a : Act} {w : World}
theorem Rel.leave (h : Rel G E F st a w) {ι : List Nat} {l : List AV} {sep : Bool} {F0 : Nat → Prop} (hF0 : ∀ b, F0 b → F b ∨ sep = false ∧ FV E F st ι l b) {gl : Nat → Option ((t : Ty) × t.D)} {res : List AV} {ob1 : List Ob} {E' : Env} {F' : Nat → Prop} {a' : Act} {w' : World}
   (R : Rel ⟨w, F0, E.via ι, ι.length, gl⟩ E' F' ⟨res, ob1⟩ a' w') (hn : nodupB ι = true) (hlv : ∀ (i o : Nat), ι[i]? = some o → st.live o) {st' : St} {res' : List AV} {p : Prop}
   (hl : leaveA G.m0 st ι l sep res ob1 = some (st', res', p)) (hp : p) :
   ∃ E'' F'', Rel G E'' F'' st' a w' ∧ TR E'' st'.inf F'' w' (resA res') (retVal a'.tmps) := by
 unfold leaveA at hl
 split at hl <;> try (cases hl; done)
 rename_i r hb
 split at hl <;> try (cases hl; done)
 rename_i res1 obN hres hobN
 split at hl <;> try (cases hl; done)
 rename_i u1 u2 u3
 injection hl with hl; injection hl with hl1 hl2; injection hl2 with hl2 hl3
 subst hl1 hl3
 subst hl2
 obtain ⟨b1, b2⟩ := backs_ok hb hp
 obtain ⟨c1, c2⟩ := renOs_get hobN
 -- names
 have hlt : ∀ q, st.live q → q < st.ob.length := fun q hq => by
   simp only [St.live, St.inf] at hq
   cases hx : st.ob[q]? with
   | none => simp [hx] at hq
   | some x => exact (List.getElem?_eq_some_iff.mp hx).1
 have hιlt : ∀ i o : Nat, ι[i]? = some o → i < ι.length ∧ o < st.ob.length := fun i o hi => ⟨(List.getElem?_eq_some_iff.mp hi).1, hlt o (hlv i o hi)⟩
 have hob1 : ι.length ≤ ob1.length := by
   by_cases h0 : ι.length = 0
   · omega
   · have hi : ι[ι.length - 1]? = some (ι[ι.length - 1]'(by omega)) := by simp
     obtain ⟨x, v, g1, _⟩ := b2 _ _ hi
     have := (List.getElem?_eq_some_iff.mp g1).1
     omega
 -- what the new state knows
 have hci : ∀ q i, ciOf ι st.ob.length q = some i → (ι[i]? = some q ∧ i < ι.length ∧ q < st.ob.length) ∨ (ι.length ≤ i ∧ q = st.ob.length + (i - ι.length) ∧ idx q ι = none) := fun q i hi => by
   unfold ciOf at hi
   split at hi
   · rename_i j hj
     injection hi with hi; subst hi
     exact .inl ⟨idx_some hj, hιlt _ _ (idx_some hj)⟩
   · rename_i hj
     split at hi
     · cases hi
     · injection hi with hi; subst hi
       exact .inr ⟨by omega, by omega, hj⟩
 have hcn : ∀ q, ciOf ι st.ob.length q = none → idx q ι = none ∧ q < st.ob.length := fun q hq => by
   unfold ciOf at hq
   split at hq
   · cases hq
   · rename_i hj
     split at hq
     · rename_i hlt; exact ⟨hj, hlt⟩
     · cases hq
 have hciι : ∀ i o : Nat, ι[i]? = some o → ciOf ι st.ob.length o = some i := fun i o hi => by simp [ciOf, idx_get hn hi]
 have hcinew : ∀ i, ι.length ≤ i → ciOf ι st.ob.length (st.ob.length + (i - ι.length)) = some i := fun i hi => by
   unfold ciOf
   split
   · rename_i j hj
     have := (hιlt _ _ (idx_some hj)).2
     omega
   · rw [if_neg (by omega)]; congr 1; omega
 have hciinj : ∀ q q' i, ciOf ι st.ob.length q = some i → ciOf ι st.ob.length q' = some i → q = q' := fun q q' i h1 h2 => by
   rcases hci q i h1 with ⟨g1, g2, g3⟩ | ⟨g1, g2, g3⟩ <;> rcases hci q' i h2 with ⟨k1, k2, k3⟩ | ⟨k1, k2, k3⟩
   · rw [g1] at k1; injection k1
   · omega
   · omega
   · omega
 let st' : St := { tm := st.tm, ob := mergeO ι obN sep l 0 st.ob ++ obN.drop ι.length }
 have hobc : ∀ q i, ciOf ι st.ob.length q = some i → st'.ob[q]? = obN[i]? := fun q i hi => by
   show (mergeO ι obN sep l 0 st.ob ++ obN.drop ι.length)[q]? = _
   rcases hci q i hi with ⟨g1, g2, g3⟩ | ⟨g1, g2, g3⟩
   · rw [List.getElem?_append_left (by rw [mergeO_length]; exact g3), mergeO_get]
     have : st.ob[q]? = some (st.ob[q]'g3) := by simp
     rw [this]
     simp only [Option.map_some, Nat.zero_add, idx_get hn g1]
     have hlt' : i < obN.length := by omega
     simp [List.getD_eq_getElem?_getD, hlt']
   · rw [List.getElem?_append_right (by rw [mergeO_length]; omega), mergeO_length, List.getElem?_drop]
     congr 1; omega
 have hobn : ∀ q, ciOf ι st.ob.length q = none → st'.ob[q]? = some .gone ∧ sep = false ∧ AV.namesL q l = true ∨ st'.ob[q]? = st.ob[q]? ∧ (sep = true ∨ AV.namesL q l = false) := fun q hq => by
   obtain ⟨g1, g2⟩ := hcn q hq
   show (mergeO ι obN sep l 0 st.ob ++ obN.drop ι.length)[q]? = _ ∧ _ ∨ (mergeO ι obN sep l 0 st.ob ++ obN.drop ι.length)[q]? = _ ∧ _
   rw [List.getElem?_append_left (by rw [mergeO_length]; exact g2), mergeO_get]
   have : st.ob[q]? = some (st.ob[q]'g2) := by simp
   rw [this]
   simp only [Option.map_some, Nat.zero_add, g1]
   cases sep <;> cases AV.namesL q l <;> simp
 have hinfc : ∀ q i, ciOf ι st.ob.length q = some i → ∀ s, st'.inf q = some s → ∃ x, ob1[i]? = some x ∧ s.ver = (r.1[i]?).getD x.cver ∧ x.inf = some ⟨x.cver, s.sh⟩ := fun q i hi s hs => by
   simp only [St.inf, hobc q i hi] at hs
   cases hy : obN[i]? with
   | none => simp [hy] at hs
   | some y =>
     obtain ⟨x, g1, g2⟩ := c2 i y hy
     simp only [hy, Option.bind_some, renO_inf g2] at hs
     cases hx : x.inf with
     | none => simp [hx] at hs
     | some s0 =>
       simp only [hx, Option.map_some] at hs
       injection hs with hs; subst hs
       have := Ob.inf_cver hx
       exact ⟨x, g1, rfl, by rw [← this]; exact hx⟩
 have hvers : ∀ i, ι.length ≤ i → r.1[i]? = none := fun i hi => List.getElem?_eq_none (by rw [b1]; exact hi)
 -- the renaming holds
 have hRn : RnOk (rnOf ι r.1 ob1 st.ob.length) E' (backE E E' ι st.ob.length) (St.inf ⟨res, ob1⟩) st'.inf := by
   intro i v q hq
   unfold rnOf at hq
   split at hq
   · rename_i o x u hi hx hu
     split at hq <;> try (cases hq; done)
     rename_i hv
     injection hq with hq; subst hq
     have hv := Nat.eq_of_beq_eq_true hv
     have hc := hciι i o hi
     refine ⟨by simp [backE, hc], by simp [backE, hc], fun s hs => ?_⟩
     obtain ⟨x', g1, g2, g3⟩ := hinfc _ i hc _ hs
     rw [hx] at g1
     injection g1 with g1; subst g1
     simp only [St.inf, hx, Option.bind_some, g3, hv]
   · cases hq
   · rename_i hi
     injection hq with hq; subst hq
     have hge : ι.length ≤ i := by simpa using hi
     have hc := hcinew i hge
     refine ⟨by simp [backE, hc], by simp [backE, hc], fun s hs => ?_⟩
     obtain ⟨x', g1, g2, g3⟩ := hinfc _ i hc _ hs
     rw [hvers i hge] at g2
     simp only [Option.getD_none] at g2
     simp only [St.inf, g1, Option.bind_some, g3, g2]
 -- the lent objects
 have hvia : ∀ i o : Nat, ι[i]? = some o → (E.via ι).β i = E.β o ∧ (E.via ι).cap i = E.cap o := fun i o hi => by simp [Env.via, List.getD_eq_getElem?_getD, hi]
 have hframe : ∀ b, b < w.heap.size → (∀ i o : Nat, ι[i]? = some o → E.β o ≠ b) → w'.heap[b]? = w.heap[b]? := fun b hb hne => by
   refine R.frame b hb fun i hi => ?_
   have : ι[i]? = some (ι[i]'hi) := by simp
   show (E.via ι).β i ≠ b
   rw [(hvia i _ this).1]
   exact hne i _ this
 let F'' : Nat → Prop := fun b => F b ∨ F' b
 have hF : ∀ b, F b → F'' b ∧ w'.heap[b]? = w.heap[b]? := fun b hb => ⟨.inl hb, hframe b (h.frz b hb) fun i o hi e => (h.apart o (hlv i o hi)).1 (e ▸ hb)⟩
 have hF' : ∀ b, F' b → F'' b ∧ w'.heap[b]? = w'.heap[b]? := fun b hb => ⟨.inr hb, rfl⟩
 have hAg : ∀ o v, o < st.ob.length → (∀ i u, ι[i]? = some o → st.noVer o u = true → v ≠ some u ∧ v ≠ none) → Ag E (backE E E' ι st.ob.length) st.inf st'.inf o v := fun o v ho hnv => by
   cases hc : ciOf ι st.ob.length o with
   | none =>
     have e1 : (backE E E' ι st.ob.length).β o = E.β o := by simp [backE, hc]
     have e2 : (backE E E' ι st.ob.length).cap o = E.cap o := by simp [backE, hc]
     cases v with
     | none => exact e1
     | some v =>
       intro s hs _
       rcases hobn o hc with ⟨g1, _⟩ | ⟨g1, _⟩
       · simp [St.inf, g1, Ob.inf] at hs
       · exact ⟨by simpa only [St.inf, g1] using hs, e1, e2⟩
   | some i =>
     rcases hci o i hc with ⟨g1, g2, g3⟩ | ⟨g1, g2, g3⟩
     · obtain ⟨x, u, k1, k2, k3⟩ := b2 i o g1
       rcases k3 with ⟨s, s1, s2⟩ | ⟨s1, s2, s3⟩
       · have hst := R.stay i ⟨0, s⟩ g2 (by simp [St.inf, k1, s2]) rfl
         have e1 : (backE E E' ι st.ob.length).β o = E.β o := by simp only [backE, hc]; rw [hst.1]; exact (hvia i o g1).1
         have e2 : (backE E E' ι st.ob.length).cap o = E.cap o := by simp only [backE, hc]; rw [hst.2]; exact (hvia i o g1).2
         cases v with
         | none => exact e1
         | some v =>
           intro s' hs' hv'
           refine ⟨?_, e1, e2⟩
           obtain ⟨x', j1, j2, j3⟩ := hinfc o i hc s' hs'
           rw [k1] at j1; injection j1 with j1; subst j1
           rw [k2] at j2
           simp only [Option.getD_some] at j2
           rw [s2] at j3
           injection j3 with j3; injection j3 with j3 j4
           rw [s1, j4, ← j2]
       · obtain ⟨z1, z2⟩ := hnv i u g1 s2
         cases v with
         | none => exact absurd rfl z2
         | some v =>
           intro s' hs' hv'
           obtain ⟨x', j1, j2, j3⟩ := hinfc o i hc s' hs'
           rw [k2] at j2
           simp only [Option.getD_some] at j2
           exact absurd (by rw [← hv', j2]) z1
     · omega
 have hAtm : ∀ (i : Nat) (x : AV), st.tm[i]? = some x → ∀ o v, x.has o v = true → Ag E (backE E E' ι st.ob.length) st.inf st'.inf o v := fun i x hx o v ho => by
   refine hAg o v (AV.under_names (AV.underL_get u1 hx) (AV.names_of_has ho)) fun j u hj hnv => ?_
   simp only [St.noVer, Bool.and_eq_true, Bool.not_eq_true'] at hnv
   refine ⟨fun e => ?_, fun e => ?_⟩
   · rw [e, hasIn_mem hnv.1.1.1 hx] at ho; cases ho
   · rw [e, hasIn_mem hnv.1.2 hx] at ho; cases ho
 have hAob : ∀ (q : Nat) (x : Ob), st.ob[q]? = some x → ∀ o v, x.has o v = true → Ag E (backE E E' ι st.ob.length) st.inf st'.inf o v := fun q x hx o v ho => by
   have hu : o < st.ob.length := by
     have := Ob.underL_get u2 hx
     cases x with
     | bx c => exact AV.under_names (a := c) (by simpa only [Ob.under] using this) (AV.names_of_has (by simpa only [Ob.has] using ho))
     | lp C s j c => exact AV.under_names (a := c) (by simpa only [Ob.under] using this) (AV.names_of_has (by simpa only [Ob.has] using ho))
     | _ => simp [Ob.has] at ho
   refine hAg o v hu fun j u hj hnv => ?_
   simp only [St.noVer, Bool.and_eq_true, Bool.not_eq_true'] at hnv
   refine ⟨fun e => ?_, fun e => ?_⟩
   · rw [e, hasInO_mem hnv.1.1.2 hx] at ho; cases ho
   · rw [e, hasInO_mem hnv.2 hx] at ho; cases ho
 have hliveR : ∀ q i, ciOf ι st.ob.length q = some i → st'.live q → (St.live ⟨res, ob1⟩) i := fun q i hi hq => by
   obtain ⟨s, hs⟩ := Option.isSome_iff_exists.mp hq
   obtain ⟨x, g1, _, g3⟩ := hinfc q i hi s hs
   simp [St.live, St.inf, g1, g3]
 have hliveO : ∀ q, ciOf ι st.ob.length q = none → st'.live q → st.live q ∧ (sep = true ∨ AV.namesL q l = false) := fun q hq hq' => by
   rcases hobn q hq with ⟨g1, _⟩ | ⟨g1, g2⟩
   · simp [St.live, St.inf, g1, Ob.inf] at hq'
   · exact ⟨by simpa only [St.live, St.inf, g1] using hq', g2⟩
 have hβc : ∀ q i, ciOf ι st.ob.length q = some i → (backE E E' ι st.ob.length).β q = E'.β i := fun q i hi => by simp [backE, hi]
 have hβn : ∀ q, ciOf ι st.ob.length q = none → (backE E E' ι st.ob.length).β q = E.β q := fun q hi => by simp [backE, hi]
 -- where callee's objects lie
 have hown : ∀ q i, ciOf ι st.ob.length q = some i → (St.live ⟨res, ob1⟩) i → w.heap.size ≤ E'.β i ∨ (ι[i]? = some q ∧ E'.β i = E.β q) := fun q i hi hlv' => by
   rcases R.own i hlv' with g | ⟨g1, g2⟩
   · exact .inl g
   · rcases hci q i hi with ⟨k1, k2, k3⟩ | ⟨k1, k2, k3⟩
     · exact .inr ⟨k1, by rw [g2]; exact (hvia i q k1).1⟩
     · exact absurd g1 (Nat.not_lt.mpr k1)
 have hF0' : ∀ b, F0 b → b < w.heap.size := fun b hb => by
   rcases hF0 b hb with g | ⟨_, g | ⟨o, o1, _, _, o4⟩⟩
   · exact h.frz b g
   · exact h.frz b g
   · rw [← o4]; exact (h.apart o o1).2
 have hres' : VRs (backE E E' ι st.ob.length) st'.inf F'' w' res1 a'.tmps.toList := by
   have aux : ∀ (m : List AV) (m' : List AV) (vs : List Value), AV.renL (rnOf ι r.1 ob1 st.ob.length) m = some m' → vs.length = m.length → (∀ (i : Nat) (x : AV), m[i]? = some x → TR E' (St.inf ⟨res, ob1⟩) F' w' x (vs.getD i undef)) → VRs (backE E E' ι st.ob.length) st'.inf F'' w' m' vs := by
     intro m
     induction m with
     | nil =>
       intro m' vs h1 h2 _
       simp only [AV.renL] at h1
       injection h1 with h1; subst h1
       simp only [VRs]
       exact List.eq_nil_of_length_eq_zero (by simpa using h2)
     | cons x m ih =>
       intro m' vs h1 h2 h3
       simp only [AV.renL] at h1
       split at h1 <;> try (cases h1; done)
       rename_i y m'' e1 e2
       injection h1 with h1; subst h1
       cases vs with
       | nil => simp at h2
       | cons v vs =>
         simp only [VRs]
         have h0 := h3 0 x rfl
         simp at h0
         have hx : CR E' (St.inf ⟨res, ob1⟩) F' w' x v.cells.toList ∧ Shaped x v := by
           cases x with
           | dead => simp [AV.ren] at e1
           | tup _ => simp [AV.ren] at e1
           | _ => exact h0
         refine ⟨v, vs, rfl, ?_, by simpa only [Shaped, (AV.ren_sh e1).2] using hx.2, ih m'' vs e2 (by simpa using h2) fun i z hz => by simpa using h3 (i + 1) z (by simpa using hz)⟩
         exact (CR.ren hRn e1 hx.1).mono hF' fun q v _ => Ag.refl _ _ _ v
   refine aux res res1 _ hres (by simpa using R.size) fun i x hx => ?_
   have := R.tms i x hx
   simpa [Array.getD_eq_getD_getElem?, List.getD_eq_getElem?_getD] using this
 refine ⟨backE E E' ι st.ob.length, F'', ?_, ?_⟩
 · refine { defers := h.defers.mono hF, size := h.size, tms := ?_, obs := ?_, apart := ?_, inj := ?_, frz := ?_, new := ?_, own := ?_, os := R.os.trans h.os, tape := R.tape.trans h.tape, output := R.output.trans h.output, grow := Nat.le_trans h.grow R.grow, frame := ?_, glob := h.glob.mono hF, stay := ?_, live0 := ?_ }
   · intro i x hx
     exact (h.tms i x hx).mono hF (hAtm i x hx)
   · intro q y hy
     cases hc : ciOf ι st.ob.length q with
     | some i =>
       rw [show (St.ob _)[q]? = st'.ob[q]? from rfl, hobc q i hc] at hy
       obtain ⟨x, g1, g2⟩ := c2 i y hy
       have hO := R.obs i x g1
       cases x with
       | gone => simp only [renO] at g2; injection g2 with g2; subst g2; trivial
       | bx c =>
         simp only [renO] at g2
         split at g2 <;> try (cases g2; done)
         rename_i c' _ hcc
         injection g2 with g2; subst g2
         obtain ⟨cs, T, k1, k2⟩ := hO
         exact ⟨cs, T, by rw [hβc q i hc]; exact k1, (CR.ren hRn hcc k2).mono hF' fun q v _ => Ag.refl _ _ _ v⟩
       | sc v te e xs =>
         simp only [renO] at g2
         injection g2 with g2; subst g2
         obtain ⟨cs, k1, k2, k3, k4, k5, k6⟩ := hO
         have hcap : (backE E E' ι st.ob.length).cap q = E'.cap i := by simp [backE, hc]
         exact ⟨cs, by rw [hβc q i hc]; exact k1, by rw [hcap]; exact k2, by rw [hcap]; exact k3, by rw [hcap]; exact k4, k5, k6.mono hF'⟩
       | lp C s j c =>
         simp only [renO] at g2
         split at g2 <;> try (cases g2; done)
         rename_i c' _ hcc
         injection g2 with g2; subst g2
         obtain ⟨r, vs, k1, k2, k3, k4⟩ := hO
         exact ⟨r, vs, by rw [hβc q i hc]; exact k1, k2, k3, (CR.ren hRn hcc k4).mono hF' fun q v _ => Ag.refl _ _ _ v⟩
       | mo k v m =>
         simp only [renO] at g2
         split at g2 <;> try (cases g2; done)
         injection g2 with g2; subst g2
         obtain ⟨es, cl, k1, k2⟩ := hO
         exact ⟨es, cl, by rw [hβc q i hc]; exact k1, k2.mono hF'⟩
     | none =>
       rcases hobn q hc with ⟨g1, _⟩ | ⟨g1, _⟩
       · rw [show (St.ob _)[q]? = st'.ob[q]? from rfl, g1] at hy
         injection hy with hy; subst hy; trivial
       · rw [show (St.ob _)[q]? = st'.ob[q]? from rfl, g1] at hy
         refine (h.obs q y hy).mono hF (hAob q y hy) fun hly => ⟨hβn q hc, by simp [backE, hc], ?_⟩
         have hlq : st.live q := by simp [St.live, St.inf, hy, hly]
         refine hframe _ (h.apart q hlq).2 fun i o hi e => ?_
         have := h.inj o q (hlv i o hi) hlq e
         subst this
         rw [hciι i o hi] at hc; cases hc
   · intro q hq
     cases hc : ciOf ι st.ob.length q with
     | some i =>
       have hR := hliveR q i hc hq
       rw [hβc q i hc]
       refine ⟨fun hb => ?_, (R.apart i hR).2⟩
       rcases hb with hb | hb
       · rcases hown q i hc hR with g | ⟨g1, g2⟩
         · have := h.frz _ hb; omega
         · rw [g2] at hb; exact (h.apart q (hlv i q g1)).1 hb
       · exact (R.apart i hR).1 hb
     | none =>
       obtain ⟨hlq, hnl⟩ := hliveO q hc hq
       rw [hβn q hc]
       have hap := h.apart q hlq
       refine ⟨fun hb => ?_, Nat.lt_of_lt_of_le hap.2 R.grow⟩
       rcases hb with hb | hb
       · exact hap.1 hb
       · rcases R.new _ hb with g | g
         · rcases hF0 _ g with g | ⟨gs, g | ⟨o, o1, o2, o3, o4⟩⟩
           · exact hap.1 g
           · exact hap.1 g
           · have := h.inj o q o1 hlq o4
             subst this
             rcases hnl with hnl | hnl
             · rw [gs] at hnl; cases hnl
             · rw [o3] at hnl; cases hnl
         · exact absurd hap.2 (Nat.not_lt.mpr g)
   · intro q q' hq hq' he
     cases hc : ciOf ι st.ob.length q with
     | some i =>
       have hR := hliveR q i hc hq
       rw [hβc q i hc] at he
       cases hc' : ciOf ι st.ob.length q' with
       | some j =>
         have hR' := hliveR q' j hc' hq'
         rw [hβc q' j hc'] at he
         have := R.inj i j hR hR' he
         subst this
         exact hciinj q q' i hc hc'
       | none =>
         obtain ⟨hlq', _⟩ := hliveO q' hc' hq'
         rw [hβn q' hc'] at he
         rcases hown q i hc hR with g | ⟨g1, g2⟩
         · have := (h.apart q' hlq').2; omega
         · exact h.inj q q' (hlv i q g1) hlq' (by rw [← g2, he])
     | none =>
       obtain ⟨hlq, _⟩ := hliveO q hc hq
       rw [hβn q hc] at he
       cases hc' : ciOf ι st.ob.length q' with
       | some j =>
         have hR' := hliveR q' j hc' hq'
         rw [hβc q' j hc'] at he
         rcases hown q' j hc' hR' with g | ⟨g1, g2⟩
         · have := (h.apart q hlq).2; omega
         · exact h.inj q q' hlq (hlv j q' g1) (by rw [← g2, he])
       | none =>
         obtain ⟨hlq', _⟩ := hliveO q' hc' hq'
         rw [hβn q' hc'] at he
         exact h.inj q q' hlq hlq' he
   · intro b hb
     rcases hb with hb | hb
     · exact Nat.lt_of_lt_of_le (h.frz b hb) R.grow
     · exact R.frz b hb
   · intro b hb
     rcases hb with hb | hb
     · exact h.new b hb
     · rcases R.new b hb with g | g
       · rcases hF0 b g with g | ⟨gs, g | ⟨o, o1, o2, o3, o4⟩⟩
         · exact h.new b g
         · exact h.new b g
         · rcases h.own o o1 with k | ⟨k1, k2⟩
           · right; rw [← o4]; exact k
           · rw [gs] at u3
             have := keepLow_spec (by simpa using u3) k1 o2
             rw [o3] at this; cases this
       · right; exact Nat.le_trans h.grow g
   · intro q hq
     cases hc : ciOf ι st.ob.length q with
     | some i =>
       have hR := hliveR q i hc hq
       rw [hβc q i hc]
       rcases hown q i hc hR with g | ⟨g1, g2⟩
       · exact .inl (Nat.le_trans h.grow g)
       · rw [g2]; exact h.own q (hlv i q g1)
     | none =>
       rw [hβn q hc]
       exact h.own q (hliveO q hc hq).1
   · intro b hb ho
     rw [hframe b (Nat.lt_of_lt_of_le hb h.grow) fun i o hi e => ?_]
     · exact h.frame b hb ho
     · rcases h.own o (hlv i o hi) with g | ⟨g1, g2⟩
       · omega
       · exact ho o g1 (by rw [← g2, e])
   · intro o s ho hs h0
     have hlo := h.live0 o ho
     have holt := hlt o hlo
     cases hc : ciOf ι st.ob.length o with
     | some i =>
       rcases hci o i hc with ⟨g1, g2, g3⟩ | ⟨g1, g2, g3⟩
       · obtain ⟨x, u, k1, k2, k3⟩ := b2 i o g1
         obtain ⟨x', j1, j2, j3⟩ := hinfc o i hc s hs
         rw [k1] at j1; injection j1 with j1; subst j1
         rw [k2] at j2
         simp only [Option.getD_some] at j2
         rcases k3 with ⟨s', s1, s2⟩ | ⟨s1, s2, s3⟩
         · have hst := R.stay i ⟨0, s'⟩ g2 (by simp [St.inf, k1, s2]) rfl
           have := h.stay o ⟨u, s'⟩ ho s1 (by rw [← h0, j2])
           have e1 : (backE E E' ι st.ob.length).β o = E.β o := by simp only [backE, hc]; rw [hst.1]; exact (hvia i o g1).1
           have e2 : (backE E E' ι st.ob.length).cap o = E.cap o := by simp only [backE, hc]; rw [hst.2]; exact (hvia i o g1).2
           rw [e1, e2]; exact this
         · exact absurd (by rw [← j2, h0]) s3
       · omega
     | none =>
       have e1 : (backE E E' ι st.ob.length).β o = E.β o := by simp [backE, hc]
       have e2 : (backE E E' ι st.ob.length).cap o = E.cap o := by simp [backE, hc]
       rw [e1, e2]
       rcases hobn o hc with ⟨g1, _⟩ | ⟨g1, _⟩
       · rw [show St.inf _ o = st'.inf o from rfl] at hs
         simp [St.inf, g1, Ob.inf] at hs
       · rw [show St.inf _ o = st'.inf o from rfl] at hs
         exact h.stay o s ho (by simpa only [St.inf, g1] using hs) h0
   · intro o ho
     have hlo := h.live0 o ho
     have holt := hlt o hlo
     show st'.live o
     cases hc : ciOf ι st.ob.length o with
     | some i =>
       rcases hci o i hc with ⟨g1, g2, g3⟩ | ⟨g1, g2, g3⟩
       · obtain ⟨x, u, k1, k2, k3⟩ := b2 i o g1
         have hxs : ∃ s, x.inf = some s := by
           rcases k3 with ⟨s', s1, s2⟩ | ⟨s1, s2, s3⟩
           · exact ⟨_, s2⟩
           · exact s1
         obtain ⟨s, hs⟩ := hxs
         have hi' : i < obN.length := by omega
         have hy : obN[i]? = some (obN[i]'hi') := by simp
         obtain ⟨x', j1, j2⟩ := c2 i _ hy
         rw [k1] at j1; injection j1 with j1; subst j1
         simp only [St.live, St.inf, hobc o i hc, hy, Option.bind_some, renO_inf j2, hs, Option.map_some, Option.isSome_some]
       · omega
     | none =>
       rcases hobn o hc with ⟨g1, gs, gn⟩ | ⟨g1, _⟩
       · rw [gs] at u3
         have := keepLow_spec (by simpa using u3) ho (hcn o hc).1
         rw [gn] at this; cases this
       · simpa only [St.live, St.inf, g1] using hlo
 · have hsz := R.size
   unfold resA
   split
   · rename_i x
     simp only [VRs] at hres'
     obtain ⟨v, us, e1, e2, e3, e4⟩ := hres'
     subst e4
     have : a'.tmps = #[v] := by rw [← Array.toArray_toList (xs := a'.tmps), e1]
     rw [this]
     exact TR.of_VR e2 e3
   · rename_i hne
     simp only [TR]
     refine ⟨a'.tmps.toList, ?_, hres'⟩
     have hlen := VRs.length hres'
     unfold retVal
     rw [dif_neg]
     intro h1
     have : res1.length = 1 := by rw [← hlen]; simpa using h1
     obtain ⟨x, hx⟩ := List.length_eq_one_iff.mp this
     exact hne x hx
end
end Go.Am

/- The abstract machine, part 20: calls. -/
namespace Go.Am
open Go
/-- Every function may be entered; the code is walked in round r of a loop over a function. -/
abbrev Fw (r : Option Nat) : Fence := { Fence.wide with round := r }
theorem callsIn_Fw {r : Option Nat} {n : Nat} {P : Program} {f : FuncId} {args : Array Value} {w : World} {R : Ending → World → Prop} : CallsIn (Fw r) n P f args w R ↔ Calls P f args w R :=
 ⟨fun h => (callsIn_wide (n := n)).mp h, fun h => (callsIn_wide (n := n)).mpr h⟩
theorem semAt_run {r : Option Nat} {ρ : Operand → Value} {o : Oper} {P : Program} {w w' : World} {x : Next} (h : (execOp ρ o).run P w = .ok x w') (hx : ∀ d, x ≠ .defer d) : (o.semAt r ρ).run P w = .ok x w' := by
 by_cases hd : ∃ c, o.op = .defer c
 · obtain ⟨c, hc⟩ := hd
   exfalso
   simp only [execOp, hc, Sem.run_bind] at h
   cases hr : (resolve ρ c o.type).run P w with
   | ok d w1 =>
     rw [hr] at h
     simp only [Result.andThen_ok, Sem.run_pure] at h
     injection h with h1 _
     exact hx _ h1.symm
   | _ => rw [hr] at h; cases h
 · rw [Oper.semAt_eq r ρ o (fun c hc => hd ⟨c, hc⟩)]; exact h
theorem wpIn_of_run {r : Option Nat} {P : Program} {o : Oper} {a : Act} {w w' : World} {next : Act → World → Prop} {Q : Exit → Act → World → Prop} {x : Next} (h : (execOp a.eval o).run P w = .ok x w') (hx : ∀ d, x ≠ .defer d)
   (hu : o.uponIn (Fw r) 0 P a next Q (.ok x w')) : o.wpIn (Fw r) 0 P a w next Q := by
 refine ⟨fun _ _ => trivial, ?_⟩
 rw [semAt_run h hx]; exact hu
/-- A call of the function that yields to a loop. -/
def Yields (P : Program) (vs : Array Value) (w : World) (R : Ending → World → Prop) : Prop :=
 ∃ l us, vs.toList = .func (.yield l) #[] #[] :: us ∧ ∃ fn tmps asg body, (Instr.yield l us.toArray).run P w = .ok (.round l fn tmps asg body) w ∧ RoundIn Fence.wide 0 P l fn tmps asg body w R
theorem Yields.mono {P : Program} {vs : Array Value} {w : World} {R R' : Ending → World → Prop} (h : Yields P vs w R) (hr : ∀ e w', R e w' → R' e w') : Yields P vs w R' := by
 obtain ⟨l, us, h1, fn, tmps, asg, body, h2, h3⟩ := h
 exact ⟨l, us, h1, fn, tmps, asg, body, h2, h3.mono hr⟩
/-- A call, of whatever is called. -/
def GCallT (T : Array Value → World → (Ending → World → Prop) → Prop) (gl : Nat → Option ((t : Ty) × t.D)) (sep : Bool) (args : List AV) (ob0 : List Ob) (res : List AV) (ob1 : List Ob) : Prop :=
 ∀ (E : Env) (F F0 : Nat → Prop) (w : World) (a : Act), (∀ b, F0 b → F b) → (sep = false → F0 = F) → GlobOk gl F0 w → Rel ⟨w, F, E, ob0.length, gl⟩ E F ⟨args, ob0⟩ a w →
   T a.tmps w fun e w' => ∃ E' F' a', e = .returned (retVal a'.tmps) ∧ Rel ⟨w, F0, E, ob0.length, gl⟩ E' F' ⟨res, ob1⟩ a' w'
def GYield (P : Program) (gl : Nat → Option ((t : Ty) × t.D)) (sep : Bool) (args : List AV) (ob0 : List Ob) (res : List AV) (ob1 : List Ob) : Prop := GCallT (Yields P) gl sep args ob0 res ob1
/-- What is known of the functions. -/
structure Cy extends Cx where
 gl : Nat → Option ((t : Ty) × t.D)
 m0 : Nat
 Γ : FuncId → List AV → List Ob → Option (Prop × Bool × List AV × List Ob)
 lend : FuncId → Bool
 dr : Nat → Option Nat := fun _ => none
 Yl : List AV → List Ob → Option (Prop × Bool × List AV × List Ob) := fun _ _ => none
 ro : Option Nat := none    -- the object that is the record of the round
 bs : List Nat := []        -- what is lent, and may have moved at the end
 Γd : Nat → FuncId → List AV → List Ob → Option (Prop × Bool × List AV × List Ob) := fun _ _ _ _ => none    -- what is known of the one call whose result goes into a temporary
def Enters (P : Program) (f : FuncId) : Prop := ∃ fn, P.funcs[f]? = some fn ∧ fn.body.isNone = false ∧ (fn.name == "runtime.NumGoroutine") = false
structure Cy.Ok (X : Cy) : Prop extends X.toCx.Ok where
 Γ : ∀ f xs ob0 p sep res ob1, X.Γ f xs ob0 = some (p, sep, res, ob1) → p → Enters X.P f ∧ GCall X.P X.gl f sep xs ob0 res ob1
 Γd : ∀ t f xs ob0 p sep res ob1, X.Γd t f xs ob0 = some (p, sep, res, ob1) → p → Enters X.P f ∧ GCall X.P X.gl f sep xs ob0 res ob1
 Yl : ∀ xs ob0 p sep res ob1, X.Yl xs ob0 = some (p, sep, res, ob1) → p → GYield X.P X.gl sep xs ob0 res ob1
theorem Cy.Ok.bump {X : Cy} (h : X.Ok) (bs : List Nat) : Cy.Ok { X with bs := bs } := ⟨h.toOk, h.Γ, h.Γd, h.Yl⟩
def Cy.Γat (X : Cy) (d : Option Tmp) (f : FuncId) (xs : List AV) (ob0 : List Ob) : Option (Prop × Bool × List AV × List Ob) :=
 match d with
 | some t => (match X.Γd t f xs ob0 with
   | some r => some r
   | none => X.Γ f xs ob0)
 | none => X.Γ f xs ob0
theorem Cy.Ok.Γat {X : Cy} (h : X.Ok) (d : Option Tmp) : ∀ f xs ob0 p sep res ob1, X.Γat d f xs ob0 = some (p, sep, res, ob1) → p → Enters X.P f ∧ GCall X.P X.gl f sep xs ob0 res ob1 := by
 intro f xs ob0 p sep res ob1 he hp
 unfold Cy.Γat at he
 split at he
 · split at he
   · rename_i r hr
     injection he with he; subst he
     exact h.Γd _ _ _ _ _ _ _ _ hr hp
   · exact h.Γ _ _ _ _ _ _ _ he hp
 · exact h.Γ _ _ _ _ _ _ _ he hp
mutual
/-- The objects that are named. -/
def AV.ids : AV → List Nat
 | .own o _ => [o]
 | .sub o _ _ _ _ => [o]
 | .ptr o _ _ => [o]
 | .mp o => [o]
 | .yld o => [o]
 | .pv c => c.ids
 | .agg l => AV.idsL l
 | .clo _ l m => AV.idsL l ++ AV.idsL m
 | _ => []
def AV.idsL : List AV → List Nat
 | [] => []
 | a :: l => a.ids ++ AV.idsL l
end
def reach (st : St) : Nat → List Nat → List Nat → List Nat
 | 0, _, acc => acc
 | _, [], acc => acc
 | n + 1, o :: t, acc => (match idx o acc with
   | some _ => reach st n t acc
   | none => (match st.ob[o]? with
     | some (.bx c) => reach st n (c.ids ++ t) (acc ++ [o])
     | some (.lp _ _ _ c) => reach st n (c.ids ++ t) (acc ++ [o])
     | _ => reach st n t (acc ++ [o])))
def callWith (X : Cy) (st : St) (γ : List AV → List Ob → Option (Prop × Bool × List AV × List Ob)) (xs : List AV) (ι : List Nat) : Option (St × AV × Prop) :=
 match nodupB ι, trL st ι xs, trOs st ι ι with
 | true, some ys, some ob0 => (match γ ys ob0 with
   | some r => (match leaveA X.m0 st ι (xs ++ obAVs st ι) r.2.1 r.2.2.1 r.2.2.2 with
     | some s => some (s.1, resA s.2.1, r.1 ∧ s.2.2)
     | none => none)
   | none => none)
 | _, _, _ => none
def callA (X : Cy) (st : St) (o : Oper) : Option (St × AV × Prop) :=
 match o.op with
 | .call c => (match c.callee with
   | .value g => (match evalA X.gl st g, evalL X.gl st c.args.toList with
     | some (.clo f l m), some xs => (match noTup xs with
       | true => callWith X st (X.Γat o.dst f) (l ++ (xs ++ m)) (match X.lend f with
         | true => reach st 40 (AV.idsL (l ++ (xs ++ m))) []
         | false => [])
       | false => none)
     | some (.yld q), some xs => (match noTup xs with
       | true => callWith X st X.Yl (.yld q :: xs) (reach st 40 (AV.idsL (.yld q :: xs)) [])
       | false => none)
     | _, _ => none)
   | _ => none)
 | _ => none
section
variable {X : Cy} {G : En} {E : Env} {F : Nat → Prop} {st : St} {a : Act} {w : World}
theorem VRs.append {I : Nat → Option Inf} : ∀ {l m : List AV} {vs us : List Value}, VRs E I F w l vs → VRs E I F w m us → VRs E I F w (l ++ m) (vs ++ us)
 | [], m, vs, us, h1, h2 => by simp only [VRs] at h1; subst h1; simpa using h2
 | x :: l, m, vs, us, h1, h2 => by
   simp only [VRs] at h1
   obtain ⟨v, vs', rfl, e1, e2, e3⟩ := h1
   simp only [List.cons_append, VRs]
   exact ⟨v, _, rfl, e1, e2, e3.append h2⟩
theorem run_callWith (hG : G.gl = X.gl) (hm : G.m0 = X.m0) (h : Rel G E F st a w) {T : Array Value → World → (Ending → World → Prop) → Prop} (hT : ∀ vs w R R', T vs w R → (∀ e w', R e w' → R' e w') → T vs w R')
   {γ : List AV → List Ob → Option (Prop × Bool × List AV × List Ob)} (hγ : ∀ ys ob0 p sep res ob1, γ ys ob0 = some (p, sep, res, ob1) → p → GCallT T X.gl sep ys ob0 res ob1)
   {xs : List AV} {vs : List Value} {ι : List Nat} {st' : St} {v : AV} {p : Prop} (hx : VRs E st.inf F w xs vs)
   (he : callWith X st γ xs ι = some (st', v, p)) (hp : p) :
   T vs.toArray w fun e w' => ∃ u E' F', e = .returned u ∧ Rel G E' F' st' a w' ∧ TR E' st'.inf F' w' v u := by
 unfold callWith at he
 split at he <;> try (cases he; done)
 rename_i ys ob0 hn ht ho
 split at he <;> try (cases he; done)
 rename_i r hr
 split at he <;> try (cases he; done)
 rename_i s hs
 injection he with he; injection he with h1 h2; injection h2 with h2 h3
 subst h1 h2 h3
 have k2 := hγ ys ob0 r.1 r.2.1 r.2.2.1 r.2.2.2 hr hp.1
 have hen := h.enter hn hx ht ho
 obtain ⟨hlen, hget⟩ := trOs_get ho
 have hlv : ∀ (i o : Nat), ι[i]? = some o → st.live o := fun i o hi => by
   have hi' : i < ob0.length := by rw [hlen]; exact (List.getElem?_eq_some_iff.mp hi).1
   obtain ⟨o', g1, g2⟩ := hget i _ (List.getElem?_eq_getElem hi')
   rw [hi] at g1; injection g1 with g1; subst g1
   obtain ⟨y, v, s', g3, g4, g5⟩ := trO_inf g2
   simp [St.live, g4]
 rw [hG] at hen
 have hgl : ∀ Z : Nat → Prop, (∀ b, F b → Z b) → GlobOk X.gl Z w := fun Z hZ => by
   have := h.glob
   rw [hG] at this
   exact this.mono fun b hb => ⟨hZ b hb, rfl⟩
 cases hsep : r.2.1 with
 | true =>
   refine hT _ _ _ _ (k2 (E.via ι) (FV E F st ι (xs ++ obAVs st ι)) F w _ (fun b hb => .inl hb) (fun e => by rw [hsep] at e; cases e) (hgl F fun _ hb => hb) hen) ?_
   rintro e w' ⟨E', F', a', rfl, R⟩
   rw [hlen] at R
   rw [← hm] at hs
   obtain ⟨E'', F'', g1, g2⟩ := h.leave (F0 := F) (fun b hb => .inl hb) R hn hlv hs hp.2
   exact ⟨_, E'', F'', rfl, g1, g2⟩
 | false =>
   refine hT _ _ _ _ (k2 (E.via ι) (FV E F st ι (xs ++ obAVs st ι)) (FV E F st ι (xs ++ obAVs st ι)) w _ (fun b hb => hb) (fun _ => rfl) (hgl _ fun _ hb => .inl hb) hen) ?_
   rintro e w' ⟨E', F', a', rfl, R⟩
   rw [hlen] at R
   rw [← hm] at hs
   obtain ⟨E'', F'', g1, g2⟩ := h.leave (F0 := FV E F st ι (xs ++ obAVs st ι)) (fun b hb => .inr ⟨hsep, hb⟩) R hn hlv hs hp.2
   exact ⟨_, E'', F'', rfl, g1, g2⟩
/-- A function is entered. -/
def Does (P : Program) (f : FuncId) (vs : Array Value) (w : World) (R : Ending → World → Prop) : Prop := Enters P f ∧ Calls P f vs w R
theorem run_callFn {d : Option Tmp} (hX : X.Ok) (hG : G.gl = X.gl) (hm : G.m0 = X.m0) (h : Rel G E F st a w) {f : FuncId} {xs : List AV} {vs : List Value} {ι : List Nat} {st' : St} {v : AV} {p : Prop} (hx : VRs E st.inf F w xs vs)
   (he : callWith X st (X.Γat d f) xs ι = some (st', v, p)) (hp : p) :
   Enters X.P f ∧ Calls X.P f vs.toArray w fun e w' => ∃ u E' F', e = .returned u ∧ Rel G E' F' st' a w' ∧ TR E' st'.inf F' w' v u :=
 run_callWith hG hm h (T := Does X.P f) (fun vs w R R' h hr => ⟨h.1, h.2.mono hr⟩) (fun ys ob0 p sep res ob1 h1 h2 E F F0 w a g1 g2 g3 g4 => by
   obtain ⟨k1, k2⟩ := hX.Γat d f ys ob0 p sep res ob1 h1 h2
   exact ⟨k1, k2 E F F0 w a g1 g2 g3 g4⟩) hx he hp
theorem run_callYl (hX : X.Ok) (hG : G.gl = X.gl) (hm : G.m0 = X.m0) (h : Rel G E F st a w) {xs : List AV} {vs : List Value} {ι : List Nat} {st' : St} {v : AV} {p : Prop} (hx : VRs E st.inf F w xs vs)
   (he : callWith X st X.Yl xs ι = some (st', v, p)) (hp : p) :
   Yields X.P vs.toArray w fun e w' => ∃ u E' F', e = .returned u ∧ Rel G E' F' st' a w' ∧ TR E' st'.inf F' w' v u :=
 run_callWith hG hm h (T := Yields X.P) (fun _ _ _ _ h hr => h.mono hr) hX.Yl hx he hp
theorem run_callFunc_enters {P : Program} {f : FuncId} {args : Array Value} (h : Enters P f) : (callFunc f args).run P w = .ok (.enter f args) w := by
 obtain ⟨fn, h1, h2, h3⟩ := h
 have h4 : fn.name ≠ "runtime.NumGoroutine" := by simpa using h3
 cases hb : fn.body with
 | none => simp [hb] at h2
 | some b => simp [callFunc, h1, h4, hb]
theorem run_callA (hX : X.Ok) (hG : G.gl = X.gl) (hm : G.m0 = X.m0) (h : Rel G E F st a w) {o : Oper} {st' : St} {v : AV} {p : Prop} (he : callA X st o = some (st', v, p)) (hp : p)
   {next : Act → World → Prop} {Q : Exit → Act → World → Prop} (hnext : ∀ E' F' w' u, Rel G E' F' st' a w' → TR E' st'.inf F' w' v u → next (a.put o.dst u) w') {r : Option Nat} : o.wpIn (Fw r) 0 X.P a w next Q := by
 unfold callA at he
 split at he <;> try (cases he; done)
 rename_i c ho
 split at he <;> try (cases he; done)
 rename_i g hc
 split at he <;> try (cases he; done)
 · rename_i f l m xs hg hxs
   split at he <;> try (cases he; done)
   rename_i ht
   rw [← hG] at hg hxs
   have hf := one_cell (h.eval hg) rfl
   simp only [CR] at hf
   obtain ⟨vs, us, e1, e2, e3⟩ := hf
   injection e1 with e1 _
   have hargs := h.evalL hxs ht
   obtain ⟨k1, k2⟩ := run_callFn hX hG hm h (e2.append (hargs.append e3)) he hp
   have hrun : (execOp a.eval o).run X.P w = .ok (.enter f ((vs ++ ((c.args.toList.map a.eval) ++ us)).toArray)) w := by
     have : (vs.toArray ++ c.args.map a.eval ++ us.toArray) = (vs ++ ((c.args.toList.map a.eval) ++ us)).toArray := by
       apply Array.ext'
       simp
     simp only [execOp, ho, resolve, hc, e1, Deferred.ofValue, Sem.run_bind, Sem.run_pure, Result.andThen_ok, invoke]
     rw [this]
     exact run_callFunc_enters k1
   refine wpIn_of_run hrun (fun d h => nomatch h) ?_
   rw [Oper.uponIn_enter]
   refine ⟨fun h => (nomatch h), callsIn_Fw.mpr (k2.mono ?_)⟩
   rintro e w' ⟨u, E', F', rfl, g1, g2⟩
   exact hnext E' F' w' u g1 g2
 · rename_i q xs hg hxs
   split at he <;> try (cases he; done)
   rename_i ht
   rw [← hG] at hg hxs
   have hf := h.eval hg
   have hf1 := one_cell hf rfl
   simp only [CR] at hf1
   injection hf1 with e1 _
   have hargs := h.evalL hxs ht
   have hcr : CR E st.inf F w (.yld q) (a.eval g).cells.toList := hf.1
   obtain ⟨l, us, k1, fn, tmps, asg, body, k2, k3⟩ := run_callYl hX hG hm h (vs := a.eval g :: c.args.toList.map a.eval) (by simp only [VRs]; exact ⟨_, _, rfl, hcr, hf.2, hargs⟩) he hp
   simp only [List.cons.injEq] at k1
   obtain ⟨k1, rfl⟩ := k1
   have hrun : (execOp a.eval o).run X.P w = .ok (.round l fn tmps asg body) w := by
     have : (#[] ++ c.args.map a.eval) = (c.args.toList.map a.eval).toArray := by
       apply Array.ext'
       simp
     simp only [execOp, ho, resolve, hc, k1, Deferred.ofValue, Sem.run_bind, Sem.run_pure, Result.andThen_ok, invoke]
     rw [this]
     exact k2
   refine wpIn_of_run hrun (fun d h => nomatch h) ?_
   rw [Oper.uponIn_round]
   refine ⟨fun h => (nomatch h), RoundIn.mono (show RoundIn (Fw r) 0 X.P l fn tmps asg body w _ from k3) ?_⟩
   rintro e w' ⟨u, E', F', rfl, g1, g2⟩
   exact hnext E' F' w' u g1 g2
end
end Go.Am

/- The abstract machine, part 21: states that say less. -/
namespace Go.Am
open Go
def natsEq : List Nat → List Nat → Bool
 | [], [] => true
 | a :: l, b :: m => Nat.beq a b && natsEq l m
 | _, _ => false
theorem natsEq_eq : ∀ {l m : List Nat}, natsEq l m = true → l = m
 | [], [], _ => rfl
 | [], _ :: _, h => by simp [natsEq] at h
 | _ :: _, [], h => by simp [natsEq] at h
 | a :: l, b :: m, h => by
   simp only [natsEq, Bool.and_eq_true] at h
   rw [Nat.eq_of_beq_eq_true h.1, natsEq_eq h.2]
def nilEq : Value → Value → Bool
 | .slice none 0 0, .slice none 0 0 => true
 | .map none, .map none => true
 | .pointer none, .pointer none => true
 | .nilFunc, .nilFunc => true
 | .nilIface, .nilIface => true
 | _, _ => false
theorem nilEq_eq {v u : Value} (h : nilEq v u = true) : v = u := by
 unfold nilEq at h
 split at h <;> first | rfl | cases h
def onB (b : Bool) (p : Prop) : Prop := match b with
 | true => p
 | false => False
theorem onB_spec {b : Bool} {p : Prop} (h : onB b p) : b = true ∧ p := by
 cases b
 · exact h.elim
 · exact ⟨rfl, h⟩
def eqO {α : Type} (x : Option α) (y : α) : Prop := match x with
 | some x => x = y
 | none => False
theorem eqO_spec {α : Type} {x : Option α} {y : α} (h : eqO x y) : x = some y := by
 cases x with
 | none => exact h.elim
 | some x => exact congrArg some h
def asAgg : AV → Option (List AV)
 | .agg l => some l
 | _ => none
def asClo : AV → Option (FuncId × List AV × List AV)
 | .clo f l m => some (f, l, m)
 | _ => none
def asPv : AV → Option AV
 | .pv c => some c
 | _ => none
def sameOwn (o v : Nat) : AV → Bool
 | .own o' v' => Nat.beq o' o && Nat.beq v' v
 | _ => false
def sameSub (o v : Nat) (p : List Nat) : AV → Option (Nat × Nat)
 | .sub o' v' p' lo n => (match Nat.beq o' o && Nat.beq v' v && natsEq p' p with
   | true => some (lo, n)
   | false => none)
 | _ => none
def samePtr (o v : Nat) (p : List Nat) : AV → Bool
 | .ptr o' v' p' => Nat.beq o' o && Nat.beq v' v && natsEq p' p
 | _ => false
def sameMp (o : Nat) : AV → Bool
 | .mp o' => Nat.beq o' o
 | _ => false
def sameYld (o : Nat) : AV → Bool
 | .yld o' => Nat.beq o' o
 | _ => false
def sameVv (u : Value) : AV → Bool
 | .vv v => nilEq v u
 | _ => false
mutual
/-- The first says no more than the second. -/
def AV.ge : AV → AV → Prop
 | .dead, _ => False
 | .int k b, x => eqO (toInt k x) b
 | .bool c, x => eqO (toB x) c
 | .tt, x => eqO (toB x) true
 | .ff, x => eqO (toB x) false
 | .pb p d, x => eqO (toB x) (@decide p d)
 | .str s, x => eqO (toS x) s
 | .sl e ys, x => eqO (toSl e x) ys
 | .ar e n ys, x => eqO (toAr n e x) ys
 | .pt _ _, _ => False
 | .agg m, x => (match asAgg x with
   | some l => AV.geL m l
   | none => False)
 | .clo f l' m', x => (match asClo x with
   | some q => onB (Nat.beq q.1 f) (AV.geL l' q.2.1 ∧ AV.geL m' q.2.2)
   | none => False)
 | .pv c', x => (match asPv x with
   | some c => AV.ge c' c
   | none => False)
 | .own o v, x => onB (sameOwn o v x) True
 | .sub o v p lo n, x => (match sameSub o v p x with
   | some q => q.1 = lo ∧ q.2 = n
   | none => False)
 | .ptr o v p, x => onB (samePtr o v p x) True
 | .mp o, x => onB (sameMp o x) True
 | .yld o, x => onB (sameYld o x) True
 | .vv u, x => onB (sameVv u x) True
 | .tup _, _ => False
def AV.geL : List AV → List AV → Prop
 | [], l => (match l with
   | [] => True
   | _ => False)
 | b :: m, l => (match l with
   | a :: l => AV.ge b a ∧ AV.geL m l
   | [] => False)
end
section
variable {E : Env} {I : Nat → Option Inf} {F : Nat → Prop} {w : World}
theorem toInt_CR {k : IntKind} {x : AV} {n : Int} {cs : List Value} (h : toInt k x = some n) (hx : CR E I F w x cs) : cs = [.int k n] := CD.of_toD (t := .int k) (x := n) h hx
theorem toB_CR {x : AV} {b : Bool} {cs : List Value} (h : toB x = some b) (hx : CR E I F w x cs) : cs = [.bool b] := CD.of_toD (t := .bool) (x := b) h hx
theorem toS_CR {x : AV} {s : ByteArray} {cs : List Value} (h : toS x = some s) (hx : CR E I F w x cs) : cs = [.string s] := CD.of_toD (t := .str) (x := s) h hx
theorem toInt_nag {k : IntKind} {x : AV} {n : Int} (h : toInt k x = some n) : x.isAgg = false ∧ x.sh = .cell ∧ isTup x = false := by
 cases x <;> first | (exact ⟨rfl, rfl, rfl⟩) | (simp [toInt] at h)
theorem toB_nag {x : AV} {n : Bool} (h : toB x = some n) : x.isAgg = false ∧ x.sh = .cell ∧ isTup x = false := by
 cases x <;> first | (exact ⟨rfl, rfl, rfl⟩) | (simp [toB] at h)
theorem toS_nag {x : AV} {n : ByteArray} (h : toS x = some n) : x.isAgg = false ∧ x.sh = .cell ∧ isTup x = false := by
 cases x <;> first | (exact ⟨rfl, rfl, rfl⟩) | (simp [toS] at h)
theorem toSl_nag {e : Ty} {x : AV} {n : List e.D} (h : toSl e x = some n) : x.isAgg = false ∧ x.sh = .cell ∧ isTup x = false := by
 cases x <;> first | (exact ⟨rfl, rfl, rfl⟩) | (simp [toSl] at h)
theorem toAr_nag {e : Ty} {m : Nat} {x : AV} {n : List e.D} (h : toAr m e x = some n) : x.isAgg = true ∧ x.sh = .arr m e.sh ∧ isTup x = false := by
 cases x with
 | ar e' n' xs =>
   simp only [toAr] at h
   split at h
   · rename_i hn
     obtain ⟨he, _⟩ := castL_some h
     subst hn; subst he
     exact ⟨rfl, rfl, rfl⟩
   · cases h
 | _ => simp [toAr] at h
mutual
/-- ... in its form. -/
theorem AV.ge_form : ∀ {y x : AV}, AV.ge y x → y.isAgg = x.isAgg ∧ y.sh = x.sh
 | .dead, _, h => by simp only [AV.ge] at h
 | .int k b, x, h => by have := toInt_nag (eqO_spec (by simpa only [AV.ge] using h)); exact ⟨this.1.symm, this.2.1.symm⟩
 | .bool c, x, h => by have := toB_nag (eqO_spec (by simpa only [AV.ge] using h)); exact ⟨this.1.symm, this.2.1.symm⟩
 | .tt, x, h => by have := toB_nag (eqO_spec (by simpa only [AV.ge] using h)); exact ⟨this.1.symm, this.2.1.symm⟩
 | .ff, x, h => by have := toB_nag (eqO_spec (by simpa only [AV.ge] using h)); exact ⟨this.1.symm, this.2.1.symm⟩
 | .pb p d, x, h => by have := toB_nag (eqO_spec (by simpa only [AV.ge] using h)); exact ⟨this.1.symm, this.2.1.symm⟩
 | .str s, x, h => by have := toS_nag (eqO_spec (by simpa only [AV.ge] using h)); exact ⟨this.1.symm, this.2.1.symm⟩
 | .sl e ys, x, h => by have := toSl_nag (eqO_spec (by simpa only [AV.ge] using h)); exact ⟨this.1.symm, this.2.1.symm⟩
 | .ar e n ys, x, h => by have := toAr_nag (eqO_spec (by simpa only [AV.ge] using h)); exact ⟨this.1.symm, this.2.1.symm⟩
 | .pt _ _, _, h => by simp only [AV.ge] at h
 | .tup _, _, h => by simp only [AV.ge] at h
 | .agg m, x, h => by
   simp only [AV.ge] at h
   cases x with
   | agg l => exact ⟨rfl, by simp only [AV.sh]; rw [AV.geL_form (by simpa only [asAgg] using h)]⟩
   | _ => simp only [asAgg] at h
 | .clo f l' m', x, h => by
   simp only [AV.ge] at h
   cases x <;> first | (exact ⟨rfl, rfl⟩) | (simp only [asClo] at h)
 | .pv c', x, h => by
   simp only [AV.ge] at h
   cases x <;> first | (exact ⟨rfl, rfl⟩) | (simp only [asPv] at h)
 | .own o v, x, h => by
   have := (onB_spec (by simpa only [AV.ge] using h)).1
   cases x <;> first | (exact ⟨rfl, rfl⟩) | (simp [sameOwn] at this)
 | .sub o v p lo n, x, h => by
   simp only [AV.ge] at h
   cases x <;> first | (exact ⟨rfl, rfl⟩) | (simp only [sameSub] at h)
 | .ptr o v p, x, h => by
   have := (onB_spec (by simpa only [AV.ge] using h)).1
   cases x <;> first | (exact ⟨rfl, rfl⟩) | (simp [samePtr] at this)
 | .mp o, x, h => by
   have := (onB_spec (by simpa only [AV.ge] using h)).1
   cases x <;> first | (exact ⟨rfl, rfl⟩) | (simp [sameMp] at this)
 | .yld o, x, h => by
   have := (onB_spec (by simpa only [AV.ge] using h)).1
   cases x <;> first | (exact ⟨rfl, rfl⟩) | (simp [sameYld] at this)
 | .vv u, x, h => by
   have := (onB_spec (by simpa only [AV.ge] using h)).1
   cases x <;> first | (exact ⟨rfl, rfl⟩) | (simp [sameVv] at this)
theorem AV.geL_form : ∀ {m l : List AV}, AV.geL m l → AV.shs m = AV.shs l
 | [], l, h => by
   cases l with
   | nil => rfl
   | cons _ _ => simp only [AV.geL] at h
 | b :: m, l, h => by
   cases l with
   | nil => simp only [AV.geL] at h
   | cons a l =>
     simp only [AV.geL] at h
     simp only [AV.shs, AV.geL_form h.2]
     rw [(AV.ge_form h.1).2]
end
mutual
theorem AV.ge_CR : ∀ {y x : AV} {cs : List Value}, AV.ge y x → CR E I F w x cs → CR E I F w y cs
 | .dead, _, _, h, _ => by simp only [AV.ge] at h
 | .int k b, x, _, h, hx => by simp only [CR]; exact toInt_CR (eqO_spec (by simpa only [AV.ge] using h)) hx
 | .bool c, x, _, h, hx => by simp only [CR]; exact toB_CR (eqO_spec (by simpa only [AV.ge] using h)) hx
 | .tt, x, _, h, hx => by simp only [CR]; exact toB_CR (eqO_spec (by simpa only [AV.ge] using h)) hx
 | .ff, x, _, h, hx => by simp only [CR]; exact toB_CR (eqO_spec (by simpa only [AV.ge] using h)) hx
 | .pb p d, x, _, h, hx => by simp only [CR]; exact toB_CR (eqO_spec (by simpa only [AV.ge] using h)) hx
 | .str s, x, _, h, hx => by simp only [CR]; exact toS_CR (eqO_spec (by simpa only [AV.ge] using h)) hx
 | .sl e ys, x, _, h, hx => by simp only [CR]; have h' : toSl e x = some ys := eqO_spec (by simpa only [AV.ge] using h); exact CD.of_toD (t := .sl e) h' hx
 | .ar e n ys, x, _, h, hx => by simp only [CR]; exact CD.of_toAr (eqO_spec (by simpa only [AV.ge] using h)) hx
 | .pt _ _, _, _, h, _ => by simp only [AV.ge] at h
 | .tup _, _, _, h, _ => by simp only [AV.ge] at h
 | .agg m, x, _, h, hx => by
   simp only [AV.ge] at h
   cases x with
   | agg l => simp only [CR] at hx ⊢; exact AV.geL_CRs (by simpa only [asAgg] using h) hx
   | _ => simp only [asAgg] at h
 | .clo f l' m', x, _, h, hx => by
   simp only [AV.ge] at h
   cases x with
   | clo f' l m =>
     simp only [asClo] at h
     obtain ⟨e, h1, h2⟩ := onB_spec h
     have e := Nat.eq_of_beq_eq_true e
     simp only [CR] at hx ⊢
     obtain ⟨vs, us, e1, e2, e3⟩ := hx
     exact ⟨vs, us, by rw [e1, show f' = f from e], AV.geL_VRs h1 e2, AV.geL_VRs h2 e3⟩
   | _ => simp only [asClo] at h
 | .pv c', x, _, h, hx => by
   simp only [AV.ge] at h
   cases x with
   | pv c =>
     simp only [asPv] at h
     simp only [CR] at hx ⊢
     obtain ⟨ad, cc, e1, e2, e3, e4⟩ := hx
     exact ⟨ad, cc, e1, e2, AV.ge_CR h e3, e4⟩
   | _ => simp only [asPv] at h
 | .own o v, x, _, h, hx => by
   have := (onB_spec (by simpa only [AV.ge] using h)).1
   cases x with
   | own o' v' =>
     simp only [sameOwn, Bool.and_eq_true] at this
     rw [← Nat.eq_of_beq_eq_true this.1, ← Nat.eq_of_beq_eq_true this.2]; exact hx
   | _ => simp [sameOwn] at this
 | .sub o v p lo n, x, _, h, hx => by
   simp only [AV.ge] at h
   cases x with
   | sub o' v' p' lo' n' =>
     simp only [sameSub] at h
     split at h
     · rename_i q hq
       split at hq
       · rename_i hb
         simp only [Bool.and_eq_true] at hb
         injection hq with hq; subst hq
         rw [← Nat.eq_of_beq_eq_true hb.1.1, ← Nat.eq_of_beq_eq_true hb.1.2, ← natsEq_eq hb.2, ← h.1, ← h.2]; exact hx
       · cases hq
     · exact h.elim
   | _ => simp only [sameSub] at h
 | .ptr o v p, x, _, h, hx => by
   have := (onB_spec (by simpa only [AV.ge] using h)).1
   cases x with
   | ptr o' v' p' =>
     simp only [samePtr, Bool.and_eq_true] at this
     rw [← Nat.eq_of_beq_eq_true this.1.1, ← Nat.eq_of_beq_eq_true this.1.2, ← natsEq_eq this.2]; exact hx
   | _ => simp [samePtr] at this
 | .mp o, x, _, h, hx => by
   have := (onB_spec (by simpa only [AV.ge] using h)).1
   cases x with
   | mp o' =>
     simp only [sameMp] at this
     rw [← Nat.eq_of_beq_eq_true this]; exact hx
   | _ => simp [sameMp] at this
 | .yld o, x, _, h, hx => by
   have := (onB_spec (by simpa only [AV.ge] using h)).1
   cases x with
   | yld o' =>
     simp only [sameYld] at this
     rw [← Nat.eq_of_beq_eq_true this]; exact hx
   | _ => simp [sameYld] at this
 | .vv u, x, _, h, hx => by
   have := (onB_spec (by simpa only [AV.ge] using h)).1
   cases x with
   | vv v =>
     simp only [sameVv] at this
     rw [← nilEq_eq this]; exact hx
   | _ => simp [sameVv] at this
theorem AV.geL_CRs : ∀ {m l : List AV} {cs : List Value}, AV.geL m l → CRs E I F w l cs → CRs E I F w m cs
 | [], l, _, h, hx => by
   cases l with
   | nil => exact hx
   | cons _ _ => simp only [AV.geL] at h
 | b :: m, l, _, h, hx => by
   cases l with
   | nil => simp only [AV.geL] at h
   | cons a l =>
     simp only [AV.geL] at h
     simp only [CRs] at hx ⊢
     obtain ⟨c1, c2, e0, e1, e2⟩ := hx
     exact ⟨c1, c2, e0, AV.ge_CR h.1 e1, AV.geL_CRs h.2 e2⟩
theorem AV.geL_VRs : ∀ {m l : List AV} {vs : List Value}, AV.geL m l → VRs E I F w l vs → VRs E I F w m vs
 | [], l, _, h, hx => by
   cases l with
   | nil => exact hx
   | cons _ _ => simp only [AV.geL] at h
 | b :: m, l, _, h, hx => by
   cases l with
   | nil => simp only [AV.geL] at h
   | cons a l =>
     simp only [AV.geL] at h
     simp only [VRs] at hx ⊢
     obtain ⟨v, us, e0, e1, e2, e3⟩ := hx
     refine ⟨v, us, e0, AV.ge_CR h.1 e1, ?_, AV.geL_VRs h.2 e3⟩
     simpa only [Shaped, (AV.ge_form h.1).1] using e2
end
end
/-- A temporary that says no more. -/
def AV.geT (y x : AV) : Prop := match y with
 | .dead => True
 | y => AV.ge y x
def AV.geTs : List AV → List AV → Prop
 | [], l => (match l with
   | [] => True
   | _ => False)
 | b :: m, l => (match l with
   | a :: l => (match b with
     | .dead => AV.geTs m l
     | b => AV.ge b a ∧ AV.geTs m l)
   | [] => False)
def Ob.ge (y x : Ob) : Prop :=
 match y with
 | .gone => True
 | .bx c' => (match x with
   | .bx c => AV.ge c' c
   | _ => False)
 | .sc v' te' e' xs' => (match x with
   | .sc v te e xs => onB (Nat.beq v v' && Nat.beq te te') (eqO (castL e e' xs) xs')
   | _ => False)
 | .lp C' s' j' c' => (match x with
   | .lp C s j c => C' = C ∧ s' = s ∧ j' = j ∧ AV.ge c' c
   | _ => False)
 | .mo k' v' m' => (match x with
   | .mo k v m => (if h : k = k' ∧ v = v' then (h.1 ▸ h.2 ▸ m : List (k'.D × v'.D)) = m' else False)
   | _ => False)
/-- Objects that say no more; the first m are there. -/
def Ob.geL : Nat → List Ob → List Ob → Prop
 | m, [], _ => (match m with
   | 0 => True
   | _ => False)
 | m, y :: ys, l => (match l with
   | x :: xs => (match m, y with
     | _ + 1, .gone => False
     | _, _ => Ob.ge y x ∧ Ob.geL (m - 1) ys xs)
   | [] => False)
def St.ge (m0 : Nat) (y x : St) : Prop := AV.geTs y.tm x.tm ∧ Ob.geL m0 y.ob x.ob
section
variable {G : En} {E : Env} {F : Nat → Prop} {st : St} {a : Act} {w : World}
theorem AV.geTs_get : ∀ {m l : List AV}, AV.geTs m l → m.length = l.length ∧ ∀ (i : Nat) (y : AV), m[i]? = some y → ∃ x, l[i]? = some x ∧ AV.geT y x
 | [], l, h => by
   cases l with
   | nil => exact ⟨rfl, fun i y hy => by simp at hy⟩
   | cons _ _ => simp only [AV.geTs] at h
 | b :: m, l, h => by
   cases l with
   | nil => simp only [AV.geTs] at h
   | cons a l =>
     have h : AV.geT b a ∧ AV.geTs m l := by
       simp only [AV.geTs] at h
       unfold AV.geT
       split at h
       · exact ⟨trivial, h⟩
       · exact h
     obtain ⟨h1, h2⟩ := AV.geTs_get h.2
     refine ⟨by simp [h1], fun i y hy => ?_⟩
     cases i with
     | zero => simp at hy; subst hy; exact ⟨a, rfl, h.1⟩
     | succ i => simpa using h2 i y (by simpa using hy)
theorem Ob.geL_get : ∀ {m0 : Nat} {m l : List Ob}, Ob.geL m0 m l → (∀ (i : Nat) (y : Ob), m[i]? = some y → ∃ x, l[i]? = some x ∧ Ob.ge y x) ∧ ∀ i : Nat, i < m0 → ∃ y, m[i]? = some y ∧ y ≠ .gone
 | m0, [], l, h => by
   cases m0 with
   | zero => exact ⟨fun i y hy => by simp at hy, fun i hi => absurd hi (Nat.not_lt_zero _)⟩
   | succ _ => simp only [Ob.geL] at h
 | m0, y :: m, l, h => by
   cases l with
   | nil => simp only [Ob.geL] at h
   | cons a l =>
     have h : Ob.ge y a ∧ (m0 ≠ 0 → y ≠ .gone) ∧ Ob.geL (m0 - 1) m l := by
       simp only [Ob.geL] at h
       split at h
       · exact h.elim
       · rename_i hne
         refine ⟨h.1, fun h0 e => ?_, h.2⟩
         cases m0 with
         | zero => exact h0 rfl
         | succ n => exact hne n rfl e
     obtain ⟨h1, h2, h3⟩ := h
     obtain ⟨g1, g2⟩ := Ob.geL_get h3
     refine ⟨fun i z hz => ?_, fun i hi => ?_⟩
     · cases i with
       | zero => simp at hz; subst hz; exact ⟨a, rfl, h1⟩
       | succ i => simpa using g1 i z (by simpa using hz)
     · cases i with
       | zero =>
         exact ⟨y, rfl, h2 (by omega)⟩
       | succ i => simpa using g2 i (by omega)
theorem Ob.ge_inf {y x : Ob} (h : Ob.ge y x) (hy : y ≠ .gone) : y.inf = x.inf := by
 cases y with
 | gone => exact absurd rfl hy
 | bx c' => cases x with
   | bx c => simp only [Ob.ge] at h; simp only [Ob.inf, (AV.ge_form h).2]
   | _ => exact h.elim
 | sc v' te' e' xs' => cases x with
   | sc v te e xs =>
     simp only [Ob.ge] at h
     obtain ⟨h1, h2⟩ := onB_spec h
     obtain ⟨he, h3⟩ := castL_some (eqO_spec h2)
     subst he; subst h3
     simp only [Bool.and_eq_true] at h1
     simp only [Ob.inf, Nat.eq_of_beq_eq_true h1.1]
   | _ => exact h.elim
 | mo k' v' m' => cases x with
   | mo k v m => rfl
   | _ => exact h.elim
 | lp C' s' j' c' => cases x with
   | lp C s j c => rfl
   | _ => exact h.elim
/-- A state may be replaced by one that says less. -/
theorem Rel.weaken (h : Rel G E F st a w) {st' : St} (hs : St.ge G.m0 st' st) : Rel G E F st' a w := by
 obtain ⟨h1, h2⟩ := hs
 obtain ⟨t1, t2⟩ := AV.geTs_get h1
 obtain ⟨o1, o2⟩ := Ob.geL_get h2
 have hinf : ∀ o s, st'.inf o = some s → st.inf o = some s := fun o s hs => by
   simp only [St.inf] at hs ⊢
   cases hy : st'.ob[o]? with
   | none => simp [hy] at hs
   | some y =>
     obtain ⟨x, g1, g2⟩ := o1 o y hy
     simp only [hy, Option.bind_some] at hs
     have hne : y ≠ .gone := fun e => by subst e; simp [Ob.inf] at hs
     rw [g1, Option.bind_some, ← Ob.ge_inf g2 hne, hs]
 have hAg : ∀ o v, Ag E E st.inf st'.inf o v := fun o v => by
   cases v with
   | none => rfl
   | some v => exact fun s hs _ => ⟨hinf o s hs, rfl, rfl⟩
 have hlive : ∀ o, st'.live o → st.live o := fun o ho => by
   obtain ⟨s, hs⟩ := Option.isSome_iff_exists.mp ho
   simp [St.live, hinf o s hs]
 have hF : ∀ b, F b → F b ∧ w.heap[b]? = w.heap[b]? := fun b hb => ⟨hb, rfl⟩
 refine { h with size := by rw [h.size, t1], tms := ?_, obs := ?_, apart := fun o ho => h.apart o (hlive o ho), inj := fun o o' ho ho' e => h.inj o o' (hlive o ho) (hlive o' ho') e, own := fun o ho => h.own o (hlive o ho), stay := fun o s ho hs h0 => h.stay o s ho (hinf o s hs) h0, live0 := ?_ }
 · intro i y hy
   obtain ⟨x, g1, g2⟩ := t2 i y hy
   have hx := (h.tms i x g1).mono hF fun o v _ => hAg o v
   unfold AV.geT at g2
   split at g2
   · trivial
   · rename_i hd
     have hx' : CR E st'.inf F w x (a.tmps.getD i undef).cells.toList ∧ Shaped x (a.tmps.getD i undef) := by
       cases x with
       | dead => exact absurd g2 (by cases y <;> simp_all [AV.ge, toInt, toB, toS, toSl, toAr, eqO, asAgg, asClo, asPv, sameOwn, sameSub, samePtr, sameMp, sameYld, sameVv, onB])
       | tup _ => exact absurd g2 (by cases y <;> simp_all [AV.ge, toInt, toB, toS, toSl, toAr, eqO, asAgg, asClo, asPv, sameOwn, sameSub, samePtr, sameMp, sameYld, sameVv, onB])
       | _ => exact hx
     exact TR.of_VR (AV.ge_CR g2 hx'.1) (by simpa only [Shaped, (AV.ge_form g2).1] using hx'.2)
 · intro o y hy
   obtain ⟨x, g1, g2⟩ := o1 o y hy
   have hO := (h.obs o x g1).mono hF (fun q v _ => hAg q v) fun _ => ⟨rfl, rfl, rfl⟩
   cases y with
   | gone => trivial
   | bx c' => cases x with
     | bx c =>
       simp only [Ob.ge] at g2
       obtain ⟨cs, T, k1, k2⟩ := hO
       exact ⟨cs, T, k1, AV.ge_CR g2 k2⟩
     | _ => exact g2.elim
   | sc v' te' e' xs' => cases x with
     | sc v te e xs =>
       simp only [Ob.ge] at g2
       obtain ⟨q1, q2⟩ := onB_spec g2
       obtain ⟨he, q3⟩ := castL_some (eqO_spec q2)
       subst he; subst q3
       simp only [Bool.and_eq_true] at q1
       rw [← Nat.eq_of_beq_eq_true q1.2]
       exact hO
     | _ => exact g2.elim
   | lp C' s' j' c' => cases x with
     | lp C s j c =>
       simp only [Ob.ge] at g2
       obtain ⟨e1, e2, e3, e4⟩ := g2
       subst e1 e2 e3
       obtain ⟨r, vs, k1, k2, k3, k4⟩ := hO
       exact ⟨r, vs, k1, k2, k3, AV.ge_CR e4 k4⟩
     | _ => exact g2.elim
   | mo k' v' m' => cases x with
     | mo k v m =>
       simp only [Ob.ge] at g2
       split at g2
       · rename_i he
         obtain ⟨e1, e2⟩ := he
         subst e1; subst e2; subst g2
         exact hO
       · exact g2.elim
     | _ => exact g2.elim
 · intro o ho
   obtain ⟨y, g1, g2⟩ := o2 o ho
   obtain ⟨x, g3, g4⟩ := o1 o y g1
   have := h.live0 o ho
   simp only [St.live, St.inf, g1, g3, Option.bind_some, Ob.ge_inf g4 g2] at this ⊢
   exact this
end
end Go.Am

/- The abstract machine, part 22: a state in its plain form. -/
namespace Go.Am
open Go
def keepTm (live : List Nat) : Nat → List AV → List AV
 | _, [] => []
 | i, x :: l => (match idx i live with
   | some _ => x
   | none => .dead) :: keepTm live (i + 1) l
theorem keepTm_get {live : List Nat} : ∀ {l : List AV} {i j : Nat} {y : AV}, (keepTm live i l)[j]? = some y → y = .dead ∨ l[j]? = some y
 | [], i, j, y, h => by simp [keepTm] at h
 | x :: l, i, 0, y, h => by
   simp only [keepTm, List.getElem?_cons_zero] at h
   split at h
   · injection h with h; exact .inr (by simp [h])
   · injection h with h; exact .inl h.symm
 | x :: l, i, j + 1, y, h => by
   simp only [keepTm, List.getElem?_cons_succ] at h
   rcases keepTm_get h with h | h
   · exact .inl h
   · exact .inr (by simpa using h)
theorem keepTm_length {live : List Nat} : ∀ {l : List AV} {i : Nat}, (keepTm live i l).length = l.length
 | [], _ => rfl
 | _ :: l, i => by simp [keepTm, keepTm_length]
def upTo : Nat → List Nat
 | 0 => []
 | n + 1 => upTo n ++ [n]
def lowIds (st : St) : Nat → List Nat
 | 0 => []
 | n + 1 => lowIds st n ++ (match st.ob[n]? with
   | some (.bx c) => c.ids
   | some (.lp _ _ _ c) => c.ids
   | _ => [])
def lowOk (ι : List Nat) : Nat → Bool
 | 0 => true
 | n + 1 => lowOk ι n && (match idx n ι with
   | some i => Nat.beq i n
   | none => false)
theorem lowOk_spec {ι : List Nat} : ∀ {m i : Nat}, lowOk ι m = true → i < m → idx i ι = some i
 | 0, i, _, h => absurd h (Nat.not_lt_zero _)
 | m + 1, i, h, hi => by
   simp only [lowOk, Bool.and_eq_true] at h
   by_cases e : i = m
   · subst e
     have := h.2
     split at this
     · rename_i j hj
       rw [hj, Nat.eq_of_beq_eq_true this]
     · cases this
   · exact lowOk_spec h.1 (by omega)
/-- The version in the plain form: 0; of what is lent, and moved: 1. -/
def inB (i : Nat) : List Nat → Bool
 | [] => false
 | j :: l => Nat.beq i j || inB i l
def nver (m0 : Nat) (bs : List Nat) (i v : Nat) : Nat := match Nat.blt i m0, v with
 | true, _ + 1 => 1
 | true, 0 => (match inB i bs with
   | true => 1
   | false => 0)
 | _, _ => 0
def normRn (m0 : Nat) (bs : List Nat) (st : St) (ι : List Nat) (o v : Nat) : Option (Nat × Nat) :=
 match idx o ι, st.ob[o]? with
 | some i, some x => (match Nat.beq v x.cver with
   | true => some (i, nver m0 bs i v)
   | false => none)
 | _, _ => none
def renT (ρ : Nat → Nat → Option (Nat × Nat)) : List AV → Option (List AV)
 | [] => some []
 | .dead :: l => (match renT ρ l with
   | some l => some (.dead :: l)
   | none => none)
 | x :: l => (match x.ren ρ, renT ρ l with
   | some y, some l => some (y :: l)
   | _, _ => none)
def normOs (m0 : Nat) (bs : List Nat) (st : St) (ρ : Nat → Nat → Option (Nat × Nat)) : Nat → List Nat → Option (List Ob)
 | _, [] => some []
 | i, o :: l => (match st.ob[o]? with
   | some x => (match renO ρ (nver m0 bs i x.cver) x, normOs m0 bs st ρ (i + 1) l with
     | some y, some m => some (y :: m)
     | _, _ => none)
   | none => none)
def normWith (m0 : Nat) (bs : List Nat) (st : St) (tm : List AV) (ι : List Nat) : Option St :=
 match nodupB ι, lowOk ι m0, renT (normRn m0 bs st ι) tm, normOs m0 bs st (normRn m0 bs st ι) 0 ι with
 | true, true, some tm, some ob => some ⟨tm, ob⟩
 | _, _, _, _ => none
/-- The plain form of a state, of which some temporaries are kept. -/
def norm (m0 : Nat) (live : List Nat) (st : St) : Option St :=
 normWith m0 [] st (keepTm live 0 st.tm) (reach st 60 (lowIds st m0 ++ AV.idsL (keepTm live 0 st.tm)) (upTo m0))
/-- ... of the objects bs that are lent it is said that they may have moved. -/
def normB (m0 : Nat) (bs live : List Nat) (st : St) : Option St :=
 normWith m0 bs st (keepTm live 0 st.tm) (reach st 60 (lowIds st m0 ++ AV.idsL (keepTm live 0 st.tm)) (upTo m0))
theorem renT_get {ρ : Nat → Nat → Option (Nat × Nat)} : ∀ {l m : List AV}, renT ρ l = some m → m.length = l.length ∧ ∀ (i : Nat) (y : AV), m[i]? = some y → y = .dead ∨ ∃ x, l[i]? = some x ∧ x.ren ρ = some y
 | [], m, h => by simp only [renT] at h; injection h with h; subst h; exact ⟨rfl, fun i y hy => by simp at hy⟩
 | x :: l, m, h => by
   unfold renT at h
   split at h
   · rename_i heq; simp at heq
   · rename_i heq
     simp at heq
     obtain ⟨e1, e2⟩ := heq
     subst e1; subst e2
     split at h <;> try (cases h; done)
     rename_i l' hl
     injection h with h; subst h
     obtain ⟨g1, g2⟩ := renT_get hl
     refine ⟨by simp [g1], fun i y hy => ?_⟩
     cases i with
     | zero => simp at hy; exact .inl hy.symm
     | succ i => simpa using g2 i y (by simpa using hy)
   · rename_i heq
     simp at heq
     obtain ⟨e1, e2⟩ := heq
     subst e1; subst e2
     split at h <;> try (cases h; done)
     rename_i y' l' hy' hl
     injection h with h; subst h
     obtain ⟨g1, g2⟩ := renT_get hl
     refine ⟨by simp [g1], fun i y hy => ?_⟩
     cases i with
     | zero => simp at hy; subst hy; exact .inr ⟨_, rfl, hy'⟩
     | succ i => simpa using g2 i y (by simpa using hy)
theorem normOs_get {m0 : Nat} {bs : List Nat} {st : St} {ρ : Nat → Nat → Option (Nat × Nat)} : ∀ {l : List Nat} {k : Nat} {m : List Ob}, normOs m0 bs st ρ k l = some m → m.length = l.length ∧
   ∀ (i : Nat) (y : Ob), m[i]? = some y → ∃ o x, l[i]? = some o ∧ st.ob[o]? = some x ∧ renO ρ (nver m0 bs (k + i) x.cver) x = some y
 | [], k, m, h => by simp only [normOs] at h; injection h with h; subst h; exact ⟨rfl, fun i y hy => by simp at hy⟩
 | o :: l, k, m, h => by
   simp only [normOs] at h
   split at h <;> try (cases h; done)
   rename_i x hx
   split at h <;> try (cases h; done)
   rename_i y' m' h1 h2
   injection h with h; subst h
   obtain ⟨g1, g2⟩ := normOs_get h2
   refine ⟨by simp [g1], fun i y hy => ?_⟩
   cases i with
   | zero => simp at hy; subst hy; exact ⟨o, x, rfl, hx, h1⟩
   | succ i =>
     obtain ⟨o', x', k1, k2, k3⟩ := g2 i y (by simpa using hy)
     exact ⟨o', x', by simpa using k1, k2, by rw [show k + (i + 1) = k + 1 + i by omega]; exact k3⟩
section
variable {G : En} {E : Env} {F : Nat → Prop} {st : St} {a : Act} {w : World}
theorem Rel.normWith (h : Rel G E F st a w) {bs : List Nat} {tm : List AV} {ι : List Nat} {st' : St} (htm : tm.length = st.tm.length) (hk : ∀ (i : Nat) (y : AV), tm[i]? = some y → y = .dead ∨ st.tm[i]? = some y)
   (hs : normWith G.m0 bs st tm ι = some st') : Rel G (E.via ι) F st' a w := by
 unfold Am.normWith at hs
 split at hs <;> try (cases hs; done)
 rename_i tm' ob' hn hlow ht ho
 injection hs with hs; subst hs
 obtain ⟨t1, t2⟩ := renT_get ht
 obtain ⟨o1, o2⟩ := normOs_get ho
 have hvia : ∀ i o : Nat, ι[i]? = some o → (E.via ι).β i = E.β o ∧ (E.via ι).cap i = E.cap o := fun i o hi => by simp [Env.via, List.getD_eq_getElem?_getD, hi]
 have hinf : ∀ i s, (St.inf ⟨tm', ob'⟩) i = some s → ∃ o x, ι[i]? = some o ∧ st.ob[o]? = some x ∧ s.ver = nver G.m0 bs i x.cver ∧ st.inf o = some ⟨x.cver, s.sh⟩ := fun i s hs => by
   simp only [St.inf] at hs
   cases hy : ob'[i]? with
   | none => simp [hy] at hs
   | some y =>
     obtain ⟨o, x, k1, k2, k3⟩ := o2 i y hy
     simp only [hy, Option.bind_some, renO_inf k3] at hs
     cases hx : x.inf with
     | none => simp [hx] at hs
     | some s0 =>
       simp only [hx, Option.map_some] at hs
       injection hs with hs; subst hs
       refine ⟨o, x, k1, k2, by simp, ?_⟩
       have := Ob.inf_cver hx
       simp only [St.inf, k2, Option.bind_some, hx, ← this]
 have hRn : RnOk (normRn G.m0 bs st ι) E (E.via ι) st.inf (St.inf ⟨tm', ob'⟩) := by
   intro o v q hq
   unfold normRn at hq
   split at hq <;> try (cases hq; done)
   rename_i i x hi hx
   split at hq <;> try (cases hq; done)
   rename_i hv
   injection hq with hq; subst hq
   obtain ⟨b1, b2⟩ := hvia i o (idx_some hi)
   refine ⟨b1, b2, fun s hs => ?_⟩
   obtain ⟨o', x', k1, k2, k3, k4⟩ := hinf i _ hs
   rw [idx_some hi] at k1; injection k1 with k1; subst k1
   rw [hx] at k2; injection k2 with k2; subst k2
   rw [k4, Nat.eq_of_beq_eq_true hv]
 have hlv : ∀ i, (St.live ⟨tm', ob'⟩) i → ∃ o, ι[i]? = some o ∧ st.live o := fun i hi => by
   obtain ⟨s, hs⟩ := Option.isSome_iff_exists.mp hi
   obtain ⟨o, x, k1, _, _, k4⟩ := hinf i s hs
   exact ⟨o, k1, by simp [St.live, k4]⟩
 refine { defers := h.defers, size := by rw [h.size, t1, htm], tms := ?_, obs := ?_, apart := ?_, inj := ?_, frz := h.frz, new := h.new, own := ?_, os := h.os, tape := h.tape, output := h.output, grow := h.grow, frame := h.frame, glob := h.glob, stay := ?_, live0 := ?_ }
 · intro i y hy
   rcases t2 i y hy with rfl | ⟨x, g1, g2⟩
   · trivial
   · rcases hk i x g1 with rfl | g3
     · simp [AV.ren] at g2
     · have hx := h.tms i x g3
       have hx' : CR E st.inf F w x (a.tmps.getD i undef).cells.toList ∧ Shaped x (a.tmps.getD i undef) := by
         cases x with
         | dead => simp [AV.ren] at g2
         | tup _ => simp [AV.ren] at g2
         | _ => exact hx
       exact TR.of_VR (CR.ren hRn g2 hx'.1) (by simpa only [Shaped, (AV.ren_sh g2).2] using hx'.2)
 · intro i y hy
   obtain ⟨o, x, k1, k2, k3⟩ := o2 i y hy
   obtain ⟨b1, b2⟩ := hvia i o k1
   have hO := h.obs o x k2
   cases x with
   | gone => simp only [renO] at k3; injection k3 with k3; subst k3; trivial
   | bx c =>
     simp only [renO] at k3
     split at k3 <;> try (cases k3; done)
     rename_i c' _ hcc
     injection k3 with k3; subst k3
     obtain ⟨cs, T, q1, q2⟩ := hO
     exact ⟨cs, T, by rw [b1]; exact q1, CR.ren hRn hcc q2⟩
   | sc v te e xs =>
     simp only [renO] at k3
     injection k3 with k3; subst k3
     obtain ⟨cs, q1, q2, q3, q4, q5, q6⟩ := hO
     exact ⟨cs, by rw [b1]; exact q1, by rw [b2]; exact q2, by rw [b2]; exact q3, by rw [b2]; exact q4, q5, q6⟩
   | lp C s j c =>
     simp only [renO] at k3
     split at k3 <;> try (cases k3; done)
     rename_i c' _ hcc
     injection k3 with k3; subst k3
     obtain ⟨r, vs, q1, q2, q3, q4⟩ := hO
     exact ⟨r, vs, by rw [b1]; exact q1, q2, q3, CR.ren hRn hcc q4⟩
   | mo k v m =>
     simp only [renO] at k3
     split at k3 <;> try (cases k3; done)
     injection k3 with k3; subst k3
     obtain ⟨es, cl, q1, q2⟩ := hO
     exact ⟨es, cl, by rw [b1]; exact q1, q2⟩
 · intro i hi
   obtain ⟨o, h1, h2⟩ := hlv i hi
   rw [(hvia i o h1).1]; exact h.apart o h2
 · intro i j hi hj he
   obtain ⟨o, h1, h2⟩ := hlv i hi
   obtain ⟨o', h1', h2'⟩ := hlv j hj
   rw [(hvia i o h1).1, (hvia j o' h1').1] at he
   have := h.inj o o' h2 h2' he
   subst this
   exact nodupB_inj hn i j o h1 h1'
 · intro i hi
   obtain ⟨o, h1, h2⟩ := hlv i hi
   rw [(hvia i o h1).1]
   rcases h.own o h2 with k | ⟨k1, k2⟩
   · exact .inl k
   · have := nodupB_inj hn i o o h1 (idx_some (lowOk_spec hlow k1))
     subst this
     exact .inr ⟨k1, k2⟩
 · intro i s hi hs h0
   obtain ⟨o, x, k1, k2, k3, k4⟩ := hinf i s hs
   have := idx_some (lowOk_spec hlow hi)
   rw [k1] at this; injection this with this; subst this
   rw [(hvia _ _ k1).1, (hvia _ _ k1).2]
   refine h.stay o _ hi k4 ?_
   rw [h0] at k3
   unfold nver at k3
   show x.cver = 0
   cases hc : x.cver with
   | zero => rfl
   | succ n =>
     rw [hc] at k3
     have hb : Nat.blt o G.m0 = true := by simp [hi]
     rw [hb] at k3
     cases k3
 · intro i hi
   have hio := idx_some (lowOk_spec hlow hi)
   have hlen : i < ob'.length := by rw [o1]; exact (List.getElem?_eq_some_iff.mp hio).1
   obtain ⟨o, x, k1, k2, k3⟩ := o2 i _ (List.getElem?_eq_getElem hlen)
   rw [hio] at k1; injection k1 with k1; subst k1
   have := h.live0 i hi
   simp only [St.live, St.inf, k2, Option.bind_some] at this
   obtain ⟨s, hs⟩ := Option.isSome_iff_exists.mp this
   simp only [St.live, St.inf, List.getElem?_eq_getElem hlen, Option.bind_some, renO_inf k3, hs, Option.map_some, Option.isSome_some]
theorem Rel.normB (h : Rel G E F st a w) {bs live : List Nat} {st' : St} (hs : normB G.m0 bs live st = some st') : ∃ E', Rel G E' F st' a w :=
 ⟨_, h.normWith keepTm_length (fun _ _ hy => keepTm_get hy) hs⟩
theorem Rel.norm (h : Rel G E F st a w) {live : List Nat} {st' : St} (hs : norm G.m0 live st = some st') : ∃ E', Rel G E' F st' a w :=
 ⟨_, h.normWith keepTm_length (fun _ _ hy => keepTm_get hy) hs⟩
end
end Go.Am

/- The abstract machine, part 22e: arrays and structs are compared. -/
namespace Go.Am
open Go
def Ty.deq : (t : Ty) → DecidableEq t.D
 | .int _ => inferInstanceAs (DecidableEq Int)
 | .bool => inferInstanceAs (DecidableEq Bool)
 | .str => inferInstanceAs (DecidableEq ByteArray)
 | .sl e => @instDecidableEqList _ e.deq
 | .ar _ e => @instDecidableEqList _ e.deq
 | .a2 e => @instDecidableEqProd _ _ e.deq e.deq
 | .s1 a => a.deq
 | .s2 a b => @instDecidableEqProd _ _ a.deq b.deq
 | .s3 a b c => @instDecidableEqProd _ _ a.deq (@instDecidableEqProd _ _ b.deq c.deq)
 | .s4 a b c d => @instDecidableEqProd _ _ a.deq (@instDecidableEqProd _ _ b.deq (@instDecidableEqProd _ _ c.deq d.deq))
/-- Is the table's row e one of type te that can be compared? -/
def eqE (X : Cx) (rec : TypeId → Bool) (e : TypeId) (te : Ty) : Bool :=
 match X.tt e with
 | some eti => decide (eti.ty = te) && (eti.pure && rec e)
 | none => false
def eqT (X : Cx) : Nat → TypeId → Bool
 | 0, _ => false
 | d + 1, T => (match X.tt T with
   | some ti => ti.eq && (match ti.ds, ti.ty with
     | .int k, .int k' => decide (k = k')
     | .bool, .bool => true
     | .ar n e, .a2 te => Nat.beq n 2 && eqE X (eqT X d) e te
     | .ar n e, .ar m te => Nat.beq n m && eqE X (eqT X d) e te
     | .st [(o1, e1)], .s1 a => Nat.beq o1 0 && eqE X (eqT X d) e1 a
     | .st [(o1, e1), (o2, e2)], .s2 a b => Nat.beq o1 0 && Nat.beq o2 a.sz && eqE X (eqT X d) e1 a && eqE X (eqT X d) e2 b
     | .st [(o1, e1), (o2, e2), (o3, e3)], .s3 a b c => Nat.beq o1 0 && Nat.beq o2 a.sz && Nat.beq o3 (a.sz + b.sz) && eqE X (eqT X d) e1 a && eqE X (eqT X d) e2 b && eqE X (eqT X d) e3 c
     | _, _ => false)
   | none => false)
section
variable {X : Cx} {F : Nat → Prop} {w : World}
def EqRun (X : Cx) (F : Nat → Prop) (w : World) (d : Nat) (T : TypeId) (t : Ty) : Prop :=
 ∀ ti, X.tt T = some ti → ∀ (a b : t.D) (ca cb : List Value), CD F w t a ca → CD F w t b cb → (Op.equalIn d T (valOf ti.ds.agg ca) (valOf ti.ds.agg cb)).run X.P w = .ok (@decide (a = b) (t.deq a b)) w
theorem eqE_spec {rec : TypeId → Bool} {e : TypeId} {te : Ty} (h : eqE X rec e te = true) : ∃ eti, X.tt e = some eti ∧ eti.ty = te ∧ eti.pure = true ∧ rec e = true := by
 unfold eqE at h
 split at h
 · rename_i eti he
   simp only [Bool.and_eq_true, decide_eq_true_eq] at h
   exact ⟨eti, he, h.1, h.2.1, h.2.2⟩
 · cases h
/-- A part of two values is compared. -/
theorem run_part_eq (hX : X.Ok) {d : Nat} {e : TypeId} {te : Ty} {eti : TI} (he : X.tt e = some eti) (hty : eti.ty = te) (hp : eti.pure = true) (hrec : EqRun X F w d e te)
   {xs ys : Array Value} {p1 m1 q1 p2 m2 q2 : List Value} {a b : te.D} (h1 : xs.toList = p1 ++ (m1 ++ q1)) (h2 : ys.toList = p2 ++ (m2 ++ q2)) (hl : p1.length = p2.length) (c1 : CD F w te a m1) (c2 : CD F w te b m2) :
   ∃ u v, (part e xs p1.length).run X.P w = .ok u w ∧ (part e ys p1.length).run X.P w = .ok v w ∧ (Op.equalIn d e u v).run X.P w = .ok (@decide (a = b) (te.deq a b)) w := by
 subst hty
 have ok := hX.tt _ _ he
 have hsz := (pure_zero (F := F) (w := w) ok hp).2
 have hag : eti.ds.agg = false → eti.size = 1 := fun hh => by
   have hz := ok.lit
   have h3 := ok.agg
   rw [hh] at h3
   have h4 := (CR.lit (E := ⟨fun _ => 0, fun _ => 0⟩) (I := fun _ => none) (F := F) (w := w) ok.lit).len
   rw [size_one h3.symm] at h4
   rw [← ok.zsz]; simpa using h4
 refine ⟨_, _, run_part ok h1 (by rw [c1.len, hsz]) hag, ?_, hrec _ he a b m1 m2 c1 c2⟩
 rw [hl]
 exact run_part ok h2 (by rw [c2.len, hsz]) hag
theorem dec_and' {r p q : Prop} {dr : Decidable r} {dp : Decidable p} {dq : Decidable q} (h : r ↔ p ∧ q) : (@decide p dp && @decide q dq) = @decide r dr := by
 by_cases hp : p <;> by_cases hq : q <;> by_cases hr : r <;> simp_all
theorem dsOf_int {dd : TypeDesc} {k : IntKind} (h : dsOf dd = .int k) : dd = .int k := by cases dd <;> simp_all [dsOf]
theorem dsOf_bool {dd : TypeDesc} (h : dsOf dd = .bool) : dd = .bool := by cases dd <;> simp_all [dsOf]
theorem dsOf_ar {dd : TypeDesc} {n : Nat} {e : TypeId} (h : dsOf dd = .ar n e) : dd = .array n e := by cases dd <;> simp_all [dsOf]
theorem dsOf_st {dd : TypeDesc} {l : List (Nat × TypeId)} (h : dsOf dd = .st l) : ∃ fs, dd = .struct fs ∧ fs.toList.map (fun f => (f.offset, f.type)) = l := by cases dd <;> simp_all [dsOf]
theorem map_one {α β : Type} {g : α → β} {l : List α} {x : β} (h : l.map g = [x]) : ∃ f, l = [f] ∧ g f = x := by
 cases l with
 | nil => cases h
 | cons f t => cases t with
   | nil => simp at h; exact ⟨f, rfl, h⟩
   | cons _ _ => simp at h
theorem map_cons {α β : Type} {g : α → β} {l : List α} {x y : β} {m : List β} (h : l.map g = x :: y :: m) : ∃ f t, l = f :: t ∧ g f = x ∧ t.map g = y :: m := by
 cases l with
 | nil => cases h
 | cons f t => simp at h; exact ⟨f, t, rfl, h.1, by simpa using h.2⟩
theorem items_step {P : Program} {d c i : Nat} {e : TypeId} {xs ys : Array Value} {is : List Nat} {u v : Value} {r r' : Bool} (p1 : (part e xs (i * c)).run P w = .ok u w) (p2 : (part e ys (i * c)).run P w = .ok v w) (p3 : (Op.equalIn d e u v).run P w = .ok r w)
   (h : (Op.eqItems d e c xs ys is).run P w = .ok r' w) : (Op.eqItems d e c xs ys (i :: is)).run P w = .ok (r && r') w := by
 simp only [Op.eqItems, Sem.run_bind, p1, p2, p3, Result.andThen_ok, Sem.run_ite]
 cases r
 · simp
 · simp [h]
theorem fields_step {P : Program} {d off : Nat} {f : Field} {xs ys : Array Value} {fs : List Field} {u v : Value} {r r' : Bool} (hn : f.name ≠ "_") (ho : f.offset = off) (p1 : (part f.type xs off).run P w = .ok u w) (p2 : (part f.type ys off).run P w = .ok v w) (p3 : (Op.equalIn d f.type u v).run P w = .ok r w)
   (h : (Op.eqFields d xs ys fs).run P w = .ok r' w) : (Op.eqFields d xs ys (f :: fs)).run P w = .ok (r && r') w := by
 subst ho
 simp only [Op.eqFields, hn, ne_eq, not_false_eq_true, if_true, Sem.run_bind, p1, p2, p3, Result.andThen_ok, Sem.run_ite]
 cases r
 · simp
 · simp [h]
theorem run_eqT (hX : X.Ok) : ∀ (d n : Nat) (T : TypeId) (t : Ty), eqT X d T = true → (∀ ti, X.tt T = some ti → ti.ty = t) → EqRun X F w (d + n) T t := by
 intro d
 induction d with
 | zero => intro n T t h; simp [eqT] at h
 | succ d ih =>
   intro n T t h hty ti hti
   have hty := hty ti hti
   subst hty
   intro a b ca cb ha hb
   unfold eqT at h
   rw [hti] at h
   simp only [Bool.and_eq_true] at h
   obtain ⟨heq, h⟩ := h
   have ok := hX.tt _ _ hti
   obtain ⟨dd, hu, hdd⟩ := ok.under
   have hfact := ok.eqf heq
   rw [show d + 1 + n = (d + n) + 1 by omega]
   have IH : ∀ e te, eqE X (eqT X d) e te = true → ∃ eti, X.tt e = some eti ∧ eti.ty = te ∧ eti.pure = true ∧ EqRun X F w (d + n) e te := fun e te he => by
     obtain ⟨eti, g1, g2, g3, g4⟩ := eqE_spec he
     exact ⟨eti, g1, g2, g3, ih n e te g4 fun ti hti => by rw [g1] at hti; injection hti with hti; rw [← hti, g2]⟩
   have hstr : ∀ fs, dd = .struct fs → X.P.stoodInHeld T = false ∧ (∀ f ∈ fs.toList, f.name ≠ "_") ∧ X.P.fieldsOf T = fs := fun fs e => by
     subst e
     simp only [eqFactB, hu, Bool.and_eq_true, Bool.not_eq_true', List.all_eq_true] at hfact
     exact ⟨hfact.1.1, fun f hf => by simpa using hfact.1.2 f hf, by simp [Program.fieldsOf, hu]⟩
   generalize hds : ti.ds = ds at *
   generalize htt : ti.ty = tt at *
   split at h <;> try (cases h; done)
   · rename_i k k'
     simp only [decide_eq_true_eq] at h
     subst h
     have := dsOf_int hdd; subst this
     simp only [CD] at ha hb
     subst ha hb
     simp only [valOf, Ds.agg, Bool.false_eq_true, if_false, List.headD_cons]
     rw [run_equalIn_int w _ T _ _ a b hu]
     congr 1
   · have := dsOf_bool hdd; subst this
     simp only [CD] at ha hb
     subst ha hb
     simp only [valOf, Ds.agg, Bool.false_eq_true, if_false, List.headD_cons]
     have : (Op.equalIn (d + n + 1) T (.bool a) (.bool b)).run X.P w = .ok (a == b) w := by simp [Op.equalIn, run_underlying hu]
     rw [this]
     congr 1
   · rename_i m e te
     simp only [Bool.and_eq_true] at h
     have hm := Nat.eq_of_beq_eq_true h.1
     subst hm
     obtain ⟨eti, g1, g2, g3, g4⟩ := IH e te h.2
     have := dsOf_ar hdd; subst this
     have eok := hX.tt _ _ g1
     obtain ⟨ei, hei, hes, _⟩ := eok.inf
     have hco : X.P.cellsOf e = te.sz := by
       have := (pure_zero (F := F) (w := w) eok g3).2
       rw [g2] at this
       simp [Program.cellsOf, hei, hes, this]
     simp only [CD] at ha hb
     obtain ⟨a1, a2, rfl, ha1, ha2⟩ := ha
     obtain ⟨b1, b2, rfl, hb1, hb2⟩ := hb
     simp only [valOf, Ds.agg, if_true]
     rw [run_equalIn_array (w := w) (d + n) _ _ hu hei, hco]
     obtain ⟨u, v, p1, p2, p3⟩ := run_part_eq hX g1 g2 g3 g4 (xs := (a1 ++ a2).toArray) (ys := (b1 ++ b2).toArray) (p1 := []) (m1 := a1) (q1 := a2) (p2 := []) (m2 := b1) (q2 := b2) (by simp) (by simp) rfl ha1 hb1
     obtain ⟨u', v', p1', p2', p3'⟩ := run_part_eq hX g1 g2 g3 g4 (xs := (a1 ++ a2).toArray) (ys := (b1 ++ b2).toArray) (p1 := a1) (m1 := a2) (q1 := []) (p2 := b1) (m2 := b2) (q2 := []) (by simp) (by simp) (by rw [ha1.len, hb1.len]) ha2 hb2
     rw [ha1.len] at p1' p2'
     rw [show List.range 2 = [0, 1] from rfl]
     rw [items_step (by simpa using p1) (by simpa using p2) p3 (items_step (by simpa using p1') (by simpa using p2') p3' (r' := true) (by simp [Op.eqItems]))]
     congr 1
     rw [Bool.and_true]
     exact dec_and' Prod.ext_iff
   · rename_i m e m' te
     simp only [Bool.and_eq_true] at h
     have hm := Nat.eq_of_beq_eq_true h.1
     subst hm
     obtain ⟨eti, g1, g2, g3, g4⟩ := IH e te h.2
     have := dsOf_ar hdd; subst this
     have eok := hX.tt _ _ g1
     obtain ⟨ei, hei, hes, _⟩ := eok.inf
     have hco : X.P.cellsOf e = te.sz := by
       have := (pure_zero (F := F) (w := w) eok g3).2
       rw [g2] at this
       simp [Program.cellsOf, hei, hes, this]
     simp only [CD] at ha hb
     obtain ⟨la, css, lc, rfl, ha⟩ := ha
     obtain ⟨lb, dss, ld, rfl, hb⟩ := hb
     simp only [valOf, Ds.agg, if_true]
     rw [run_equalIn_array (w := w) (d + n) _ _ hu hei, hco]
     have key : ∀ k i, i + k = m → ∃ r, (Op.eqItems (d + n) e te.sz css.flatten.toArray dss.flatten.toArray (List.range' i k)).run X.P w = .ok r w ∧ (r = true ↔ (a : List te.D).drop i = (b : List te.D).drop i) := by
       intro k
       induction k with
       | zero =>
         intro i hi
         refine ⟨true, by simp [Op.eqItems], ?_⟩
         rw [List.drop_of_length_le (by omega), List.drop_of_length_le (by omega)]
         simp
       | succ k ihk =>
         intro i hi
         obtain ⟨r, hr, hiff⟩ := ihk (i + 1) (by omega)
         obtain ⟨pre, post, q1, q2, _⟩ := flatten_split (k := te.sz) (fun j hj => (ha j (by omega) hj).len) i (show i < css.length by omega)
         obtain ⟨pre', post', q1', q2', _⟩ := flatten_split (k := te.sz) (fun j hj => (hb j (by omega) hj).len) i (show i < dss.length by omega)
         have i1 : i < (a : List te.D).length := by omega
         have i2 : i < css.length := by omega
         have i3 : i < (b : List te.D).length := by omega
         have i4 : i < dss.length := by omega
         obtain ⟨u, v, p1, p2, p3⟩ := run_part_eq hX g1 g2 g3 g4 (xs := css.flatten.toArray) (ys := dss.flatten.toArray) (by simpa using q1) (by simpa using q1') (by rw [q2, q2']) (ha i i1 i2) (hb i i3 i4)
         rw [q2] at p1 p2
         rw [List.range'_succ]
         refine ⟨_, items_step p1 p2 p3 hr, ?_⟩
         rw [List.drop_eq_getElem_cons i1, List.drop_eq_getElem_cons i3, List.cons.injEq, Bool.and_eq_true, hiff]
         exact and_congr (@decide_eq_true_iff _ (te.deq _ _)) Iff.rfl
     obtain ⟨r, hr, hiff⟩ := key m 0 (by omega)
     rw [List.range_eq_range', hr]
     congr 1
     rw [List.drop_zero, List.drop_zero] at hiff
     rw [Bool.eq_iff_iff, hiff]
     exact (@decide_eq_true_iff _ ((Ty.ar m te).deq a b)).symm
   · rename_i o1 e1 t1
     simp only [Bool.and_eq_true] at h
     have ho := Nat.eq_of_beq_eq_true h.1
     subst ho
     obtain ⟨eti, g1, g2, g3, g4⟩ := IH e1 t1 h.2
     obtain ⟨fs, rfl, hfs⟩ := dsOf_st hdd
     obtain ⟨hs1, hs2, hs3⟩ := hstr fs rfl
     simp only [valOf, Ds.agg, if_true]
     rw [run_equalIn_struct w (d + n) T _ _ (by rw [hs3]; exact hu) hs1, hs3]
     simp only [CD] at ha hb
     obtain ⟨f1, hl, hq1⟩ := map_one hfs
     injection hq1 with k1 k2
     rw [hl]
     · subst k2
       obtain ⟨u, v, p1, p2, p3⟩ := run_part_eq hX g1 g2 g3 g4 (xs := ca.toArray) (ys := cb.toArray) (p1 := []) (m1 := ca) (q1 := []) (p2 := []) (m2 := cb) (q2 := []) (by simp) (by simp) rfl ha hb
       rw [fields_step (hs2 f1 (by rw [hl]; simp)) k1 p1 p2 p3 (r' := true) (by simp [Op.eqFields])]
       rw [Bool.and_true]; rfl
   · rename_i o1 e1 o2 e2 t1 t2
     simp only [Bool.and_eq_true] at h
     obtain ⟨⟨⟨ho1, ho2⟩, he1⟩, he2⟩ := h
     have ho1 := Nat.eq_of_beq_eq_true ho1
     have ho2 := Nat.eq_of_beq_eq_true ho2
     subst ho1
     obtain ⟨eti, g1, g2, g3, g4⟩ := IH e1 t1 he1
     obtain ⟨eti', g1', g2', g3', g4'⟩ := IH e2 t2 he2
     obtain ⟨fs, rfl, hfs⟩ := dsOf_st hdd
     obtain ⟨hs1, hs2, hs3⟩ := hstr fs rfl
     simp only [valOf, Ds.agg, if_true]
     rw [run_equalIn_struct w (d + n) T _ _ (by rw [hs3]; exact hu) hs1, hs3]
     simp only [CD] at ha hb
     obtain ⟨a1, a2, rfl, ha1, ha2⟩ := ha
     obtain ⟨b1, b2, rfl, hb1, hb2⟩ := hb
     obtain ⟨f1, tl, hl, hq1, hfs⟩ := map_cons hfs
     obtain ⟨f2, hl2, hq2⟩ := map_one hfs
     injection hq1 with k1 k2
     injection hq2 with k3 k4
     subst hl2
     rw [hl]
     · subst k2; subst k4
       obtain ⟨u, v, p1, p2, p3⟩ := run_part_eq hX g1 g2 g3 g4 (xs := (a1 ++ a2).toArray) (ys := (b1 ++ b2).toArray) (p1 := []) (m1 := a1) (q1 := a2) (p2 := []) (m2 := b1) (q2 := b2) (by simp) (by simp) rfl ha1 hb1
       obtain ⟨u', v', p1', p2', p3'⟩ := run_part_eq hX g1' g2' g3' g4' (xs := (a1 ++ a2).toArray) (ys := (b1 ++ b2).toArray) (p1 := a1) (m1 := a2) (q1 := []) (p2 := b1) (m2 := b2) (q2 := []) (by simp) (by simp) (by rw [ha1.len, hb1.len]) ha2 hb2
       rw [ha1.len] at p1' p2'
       rw [fields_step (hs2 f1 (by rw [hl]; simp)) k1 p1 p2 p3 (fields_step (hs2 f2 (by rw [hl]; simp)) (k3.trans ho2) p1' p2' p3' (r' := true) (by simp [Op.eqFields]))]
       congr 1
       rw [Bool.and_true]
       exact dec_and' Prod.ext_iff
   · rename_i o1 e1 o2 e2 o3 e3 t1 t2 t3
     simp only [Bool.and_eq_true] at h
     obtain ⟨⟨⟨⟨⟨ho1, ho2⟩, ho3⟩, he1⟩, he2⟩, he3⟩ := h
     have ho1 := Nat.eq_of_beq_eq_true ho1
     have ho2 := Nat.eq_of_beq_eq_true ho2
     have ho3 := Nat.eq_of_beq_eq_true ho3
     subst ho1
     obtain ⟨eti, g1, g2, g3, g4⟩ := IH e1 t1 he1
     obtain ⟨eti', g1', g2', g3', g4'⟩ := IH e2 t2 he2
     obtain ⟨eti'', g1'', g2'', g3'', g4''⟩ := IH e3 t3 he3
     obtain ⟨fs, rfl, hfs⟩ := dsOf_st hdd
     obtain ⟨hs1, hs2, hs3⟩ := hstr fs rfl
     simp only [valOf, Ds.agg, if_true]
     rw [run_equalIn_struct w (d + n) T _ _ (by rw [hs3]; exact hu) hs1, hs3]
     simp only [CD] at ha hb
     obtain ⟨a1, a2, a3, rfl, ha1, ha2, ha3⟩ := ha
     obtain ⟨b1, b2, b3, rfl, hb1, hb2, hb3⟩ := hb
     obtain ⟨f1, tl, hl, hq1, hfs⟩ := map_cons hfs
     obtain ⟨f2, tl2, hl2, hq2, hfs⟩ := map_cons hfs
     obtain ⟨f3, hl3, hq3⟩ := map_one hfs
     injection hq1 with k1 k2
     injection hq2 with k3 k4
     injection hq3 with k5 k6
     subst hl2; subst hl3
     rw [hl]
     · subst k2; subst k4; subst k6
       obtain ⟨u, v, p1, p2, p3⟩ := run_part_eq hX g1 g2 g3 g4 (xs := (a1 ++ (a2 ++ a3)).toArray) (ys := (b1 ++ (b2 ++ b3)).toArray) (p1 := []) (m1 := a1) (q1 := a2 ++ a3) (p2 := []) (m2 := b1) (q2 := b2 ++ b3) (by simp) (by simp) rfl ha1 hb1
       obtain ⟨u', v', p1', p2', p3'⟩ := run_part_eq hX g1' g2' g3' g4' (xs := (a1 ++ (a2 ++ a3)).toArray) (ys := (b1 ++ (b2 ++ b3)).toArray) (p1 := a1) (m1 := a2) (q1 := a3) (p2 := b1) (m2 := b2) (q2 := b3) (by simp) (by simp) (by rw [ha1.len, hb1.len]) ha2 hb2
       obtain ⟨u'', v'', p1'', p2'', p3''⟩ := run_part_eq hX g1'' g2'' g3'' g4'' (xs := (a1 ++ (a2 ++ a3)).toArray) (ys := (b1 ++ (b2 ++ b3)).toArray) (p1 := a1 ++ a2) (m1 := a3) (q1 := []) (p2 := b1 ++ b2) (m2 := b3) (q2 := []) (by simp) (by simp) (by simp [ha1.len, hb1.len, ha2.len, hb2.len]) ha3 hb3
       rw [ha1.len] at p1' p2'
       rw [List.length_append, ha1.len, ha2.len] at p1'' p2''
       rw [fields_step (hs2 f1 (by rw [hl]; simp)) k1 p1 p2 p3 (fields_step (hs2 f2 (by rw [hl]; simp)) (k3.trans ho2) p1' p2' p3' (fields_step (hs2 f3 (by rw [hl]; simp)) (k5.trans ho3) p1'' p2'' p3'' (r' := true) (by simp [Op.eqFields])))]
       congr 1
       rw [Bool.and_true, dec_and' (dr := @instDecidableEqProd _ _ t2.deq t3.deq a.2 b.2) Prod.ext_iff]
       exact dec_and' Prod.ext_iff
end
def effE (X : Cx) (gl : Nat → Option ((t : Ty) × t.D)) (st : St) (o : Oper) : Option (AV × Prop) :=
 match o.op with
 | .binOp op T x y _ => (match X.tt T with
   | some ti => (match ti.ds.agg && eqT X 8 T, evalA gl st x, evalA gl st y with
     | true, some u, some v => (match u.isAgg && v.isAgg, toD ti.ty u, toD ti.ty v, op with
       | true, some a, some b, .eql => some (.pb (a = b) (ti.ty.deq a b), True)
       | true, some a, some b, .neq => some (.pb (¬ a = b) (@instDecidableNot _ (ti.ty.deq a b)), True)
       | _, _, _, _ => none)
     | _, _, _ => none)
   | none => none)
 | _ => none
section
variable {X : Cx} {G : En} {E : Env} {F : Nat → Prop} {st : St} {a : Act} {w : World}
theorem agg_valE {I : Nat → Option Inf} {u : AV} {v : Value} (h : TR E I F w u v) (hu : u.isAgg = true) : ∃ cs : Array Value, v = .agg cs ∧ CR E I F w u cs.toList := by
 have h' : CR E I F w u v.cells.toList ∧ Shaped u v := by
   cases u <;> first | exact h | (simp [AV.isAgg] at hu)
 obtain ⟨h1, h2⟩ := h'
 simp only [Shaped, hu, if_true] at h2
 obtain ⟨cs, rfl⟩ := h2
 exact ⟨cs, rfl, h1⟩
theorem run_effE (hX : X.Ok) (h : Rel G E F st a w) {o : Oper} {v : AV} {p : Prop} (he : effE X G.gl st o = some (v, p)) :
   ∃ r, (execOp a.eval o).run X.P w = .ok (.value r) w ∧ TR E st.inf F w v r := by
 unfold effE at he
 split at he <;> try (cases he; done)
 rename_i op T x y wt ho
 split at he <;> try (cases he; done)
 rename_i ti hti
 split at he <;> try (cases he; done)
 rename_i u v0 hag hu hv
 simp only [Bool.and_eq_true] at hag
 have ok := hX.tt _ _ hti
 have hfact : X.P.eqGuardType X.P.depth T = false := by
   have h2 := hag.2
   unfold eqT at h2
   rw [hti] at h2
   simp only [Bool.and_eq_true] at h2
   have := ok.eqf h2.1
   simp only [eqFactB, Bool.and_eq_true, Bool.not_eq_true'] at this
   exact this.2
 have main : ∀ (c d : ti.ty.D), (u.isAgg && v0.isAgg) = true → toD ti.ty u = some c → toD ti.ty v0 = some d → ∃ xs ys, a.eval x = .agg xs ∧ a.eval y = .agg ys ∧ (Op.equalIn 10000 T (.agg xs) (.agg ys)).run X.P w = .ok (@decide (c = d) (ti.ty.deq c d)) w := by
   intro c d ha hc hd
   simp only [Bool.and_eq_true] at ha
   obtain ⟨xs, e1, c1⟩ := agg_valE (h.eval hu) ha.1
   obtain ⟨ys, e2, c2⟩ := agg_valE (h.eval hv) ha.2
   refine ⟨xs, ys, e1, e2, ?_⟩
   have := run_eqT (F := F) (w := w) hX 8 9992 T ti.ty hag.2 (fun ti' hti' => by rw [hti] at hti'; injection hti' with hti'; rw [hti']) ti hti c d xs.toList ys.toList (CD.of_toD hc c1) (CD.of_toD hd c2)
   simpa only [hag.1, valOf, if_true, Array.toArray_toList] using this
 split at he <;> try (cases he; done)
 · rename_i c d ha hc hd
   injection he with he; injection he with h1 h2; subst h1
   obtain ⟨xs, ys, e1, e2, e3⟩ := main c d ha hc hd
   refine ⟨.bool (@decide (c = d) (ti.ty.deq c d)), ?_, ?_⟩
   · simp only [execOp, ho, e1, e2, Sem.run_bind, run_eqGuard_agg w .eql T x y xs ys hfact, Result.andThen_ok, run_eql_struct, e3, Sem.run_pure]
   · exact ⟨by simp only [CR, Value.cells], by simp [Shaped, AV.isAgg, Value.cells]⟩
 · rename_i c d ha hc hd
   injection he with he; injection he with h1 h2; subst h1
   obtain ⟨xs, ys, e1, e2, e3⟩ := main c d ha hc hd
   refine ⟨.bool (!(@decide (c = d) (ti.ty.deq c d))), ?_, ?_⟩
   · simp only [execOp, ho, e1, e2, Sem.run_bind, run_eqGuard_agg w .neq T x y xs ys hfact, Result.andThen_ok, run_neq_struct, e3, Sem.run_pure]
   · refine ⟨?_, by simp [Shaped, AV.isAgg, Value.cells]⟩
     simp only [CR, Value.cells]
     by_cases hcd : c = d <;> simp [hcd]
end
end Go.Am

/- The abstract machine, part 22m: maps. -/
namespace Go.Am
open Go
def keyT (X : Cx) : Nat → TypeId → Bool
 | 0, _ => false
 | d + 1, T => (match X.tt T with
   | some ti => (match ti.ds, ti.ty with
     | .int _, .int _ => true
     | .bool, .bool => true
     | .ar n e, .a2 te => Nat.beq n 2 && eqE X (keyT X d) e te
     | .ar n e, .ar m te => Nat.beq n m && eqE X (keyT X d) e te
     | .st [(o1, e1), (o2, e2)], .s2 a b => ti.eq && Nat.beq o1 0 && Nat.beq o2 a.sz && eqE X (keyT X d) e1 a && eqE X (keyT X d) e2 b
     | _, _ => false)
   | none => false)
section
variable {X : Cx} {F : Nat → Prop} {w : World}
def CkRun (X : Cx) (F : Nat → Prop) (w : World) (em : Bool) (d : Nat) (T : TypeId) (t : Ty) : Prop :=
 ∀ ti, X.tt T = some ti → ∀ (a : t.D) (ca : List Value), CD F w t a ca → (Instr.checkKey em d T (valOf ti.ds.agg ca)).run X.P w = .ok () w
theorem run_part_ck (hX : X.Ok) {em : Bool} {d : Nat} {e : TypeId} {te : Ty} {eti : TI} (he : X.tt e = some eti) (hty : eti.ty = te) (hp : eti.pure = true) (hrec : CkRun X F w em d e te)
   {xs : Array Value} {p1 m1 q1 : List Value} {a : te.D} (h1 : xs.toList = p1 ++ (m1 ++ q1)) (c1 : CD F w te a m1) :
   ∃ u, (part e xs p1.length).run X.P w = .ok u w ∧ (Instr.checkKey em d e u).run X.P w = .ok () w := by
 subst hty
 have ok := hX.tt _ _ he
 have hsz := (pure_zero (F := F) (w := w) ok hp).2
 have hag : eti.ds.agg = false → eti.size = 1 := fun hh => by
   have hz := ok.lit
   have h3 := ok.agg
   rw [hh] at h3
   have h4 := (CR.lit (E := ⟨fun _ => 0, fun _ => 0⟩) (I := fun _ => none) (F := F) (w := w) ok.lit).len
   rw [size_one h3.symm] at h4
   rw [← ok.zsz]; simpa using h4
 exact ⟨_, run_part ok h1 (by rw [c1.len, hsz]) hag, hrec _ he a m1 c1⟩
theorem forIn_ok {P : Program} {w : World} {f : Nat → PUnit → Sem (ForInStep PUnit)} : ∀ {l : List Nat}, (∀ i ∈ l, (f i PUnit.unit).run P w = .ok (.yield PUnit.unit) w) → (forIn l PUnit.unit f).run P w = .ok PUnit.unit w
 | [], _ => by simp
 | i :: l, h => by
   rw [List.forIn_cons, Sem.run_bind, h i (by simp), Result.andThen_ok]
   exact forIn_ok fun j hj => h j (by simp [hj])
theorem run_keyT (hX : X.Ok) (em : Bool) : ∀ (d n : Nat) (T : TypeId) (t : Ty), keyT X d T = true → (∀ ti, X.tt T = some ti → ti.ty = t) → CkRun X F w em (d + n) T t := by
 intro d
 induction d with
 | zero => intro n T t h; simp [keyT] at h
 | succ d ih =>
   intro n T t h hty ti hti
   have hty := hty ti hti
   subst hty
   intro a ca ha
   unfold keyT at h
   rw [hti] at h
   simp only at h
   have ok := hX.tt _ _ hti
   obtain ⟨dd, hu, hdd⟩ := ok.under
   rw [show d + 1 + n = (d + n) + 1 by omega]
   have IH : ∀ e te, eqE X (keyT X d) e te = true → ∃ eti, X.tt e = some eti ∧ eti.ty = te ∧ eti.pure = true ∧ CkRun X F w em (d + n) e te := fun e te he => by
     obtain ⟨eti, g1, g2, g3, g4⟩ := eqE_spec he
     exact ⟨eti, g1, g2, g3, ih n e te g4 fun ti hti => by rw [g1] at hti; injection hti with hti; rw [← hti, g2]⟩
   have hfact := ok.eqf
   generalize hds : ti.ds = ds at *
   generalize htt : ti.ty = tt at *
   split at h <;> try (cases h; done)
   · rename_i k k'
     have := dsOf_int hdd; subst this
     simp only [CD] at ha
     subst ha
     simp [valOf, Ds.agg, Instr.checkKey, run_underlying hu]
   · have := dsOf_bool hdd; subst this
     simp only [CD] at ha
     subst ha
     simp [valOf, Ds.agg, Instr.checkKey, run_underlying hu]
   · rename_i m e te
     simp only [Bool.and_eq_true] at h
     have hm := Nat.eq_of_beq_eq_true h.1
     subst hm
     obtain ⟨eti, g1, g2, g3, g4⟩ := IH e te h.2
     have := dsOf_ar hdd; subst this
     have eok := hX.tt _ _ g1
     have hsz := (pure_zero (F := F) (w := w) eok g3).2
     rw [g2] at hsz
     simp only [CD] at ha
     obtain ⟨a1, a2, rfl, ha1, ha2⟩ := ha
     simp only [valOf, Ds.agg, if_true]
     obtain ⟨u, p1, p2⟩ := run_part_ck hX g1 g2 g3 g4 (xs := (a1 ++ a2).toArray) (p1 := []) (m1 := a1) (q1 := a2) (by simp) ha1
     obtain ⟨u', p1', p2'⟩ := run_part_ck hX g1 g2 g3 g4 (xs := (a1 ++ a2).toArray) (p1 := a1) (m1 := a2) (q1 := []) (by simp) ha2
     rw [ha1.len, hsz] at p1'
     rw [Instr.checkKey]
     simp only [Sem.run_bind, run_underlying hu, Result.andThen_ok]
     simp only [Std.Legacy.Range.forIn_eq_forIn_range', Std.Legacy.Range.size, Nat.sub_zero, Nat.add_one_sub_one, Nat.div_one]
     rw [show List.range' 0 2 1 = [0, 1] from rfl]
     simp only [List.forIn_cons, List.forIn_nil, Sem.run_bind, eok.run_sizeOf, Result.andThen_ok, Nat.zero_mul, Nat.one_mul, Sem.run_pure]
     simp only [List.length_nil] at p1
     rw [p1]
     simp only [Result.andThen_ok, p2, p1', p2', Sem.run_pure, Sem.run_bind, eok.run_sizeOf, List.forIn_cons, List.forIn_nil, Nat.one_mul]
   · rename_i m e m' te
     simp only [Bool.and_eq_true] at h
     have hm := Nat.eq_of_beq_eq_true h.1
     subst hm
     obtain ⟨eti, g1, g2, g3, g4⟩ := IH e te h.2
     have := dsOf_ar hdd; subst this
     have eok := hX.tt _ _ g1
     have hsz := (pure_zero (F := F) (w := w) eok g3).2
     rw [g2] at hsz
     simp only [CD] at ha
     obtain ⟨la, css, lc, rfl, ha⟩ := ha
     simp only [valOf, Ds.agg, if_true]
     rw [Instr.checkKey]
     simp only [Sem.run_bind, run_underlying hu, Result.andThen_ok]
     simp only [Std.Legacy.Range.forIn_eq_forIn_range', Std.Legacy.Range.size, Nat.sub_zero, Nat.add_one_sub_one, Nat.div_one]
     rw [forIn_ok]
     · simp
     intro i hi
     have hi : i < m := by have := List.mem_range'.mp hi; omega
     obtain ⟨pre, post, q1, q2, _⟩ := flatten_split (k := te.sz) (fun j hj => (ha j (by omega) hj).len) i (show i < css.length by omega)
     obtain ⟨u, p1, p2⟩ := run_part_ck hX g1 g2 g3 g4 (xs := css.flatten.toArray) (by simpa using q1) (ha i (show i < (a : List te.D).length by omega) (show i < css.length by omega))
     rw [q2, hsz] at p1
     simp only [Sem.run_bind, eok.run_sizeOf, Result.andThen_ok, p1, p2, Sem.run_pure]
   · rename_i o1 e1 o2 e2 t1 t2
     simp only [Bool.and_eq_true] at h
     obtain ⟨⟨⟨⟨heq, ho1⟩, ho2⟩, he1⟩, he2⟩ := h
     have ho1 := Nat.eq_of_beq_eq_true ho1
     have ho2 := Nat.eq_of_beq_eq_true ho2
     subst ho1
     obtain ⟨eti, g1, g2, g3, g4⟩ := IH e1 t1 he1
     obtain ⟨eti', g1', g2', g3', g4'⟩ := IH e2 t2 he2
     obtain ⟨fs, rfl, hfs⟩ := dsOf_st hdd
     have hs2 : ∀ f ∈ fs.toList, f.name ≠ "_" := by
       have hfact := hfact heq
       simp only [eqFactB, hu, Bool.and_eq_true, Bool.not_eq_true', List.all_eq_true] at hfact
       exact fun f hf => by simpa using hfact.1.2 f hf
     simp only [valOf, Ds.agg, if_true]
     simp only [CD] at ha
     obtain ⟨a1, a2, rfl, ha1, ha2⟩ := ha
     obtain ⟨f1, tl, hl, hq1, hfs⟩ := map_cons hfs
     obtain ⟨f2, hl2, hq2⟩ := map_one hfs
     injection hq1 with k1 k2
     injection hq2 with k3 k4
     subst hl2
     subst k2; subst k4
     obtain ⟨u, p1, p2⟩ := run_part_ck hX g1 g2 g3 g4 (xs := (a1 ++ a2).toArray) (p1 := []) (m1 := a1) (q1 := a2) (by simp) ha1
     obtain ⟨u', p1', p2'⟩ := run_part_ck hX g1' g2' g3' g4' (xs := (a1 ++ a2).toArray) (p1 := a1) (m1 := a2) (q1 := []) (by simp) ha2
     rw [ha1.len] at p1'
     simp only [List.length_nil] at p1
     rw [← k1] at p1
     rw [← ho2, ← k3] at p1'
     have n1 := hs2 f1 (by rw [hl]; simp)
     have n2 := hs2 f2 (by rw [hl]; simp)
     rw [Instr.checkKey]
     simp only [Sem.run_bind, run_underlying hu, Result.andThen_ok]
     rw [← Array.forIn_toList, hl]
     simp only [List.forIn_cons, List.forIn_nil, Sem.run_bind, n1, n2, ne_eq, not_false_eq_true, if_true, Result.andThen_ok, p1, p2, p1', p2', Sem.run_pure]
/-- Plain keys. -/
def Ty.kf : Ty → Bool
 | .int _ | .bool => true
 | .str => false
 | .sl _ => false
 | .ar _ e => e.kf
 | .a2 e => e.kf
 | .s1 a => a.kf
 | .s2 a b => a.kf && b.kf
 | .s3 a b c => a.kf && (b.kf && c.kf)
 | .s4 a b c d => a.kf && (b.kf && (c.kf && d.kf))
theorem CD.flat_eq : ∀ {t : Ty} {x : t.D} {cs cs' : List Value}, t.kf = true → CD F w t x cs → CD F w t x cs' → cs = cs'
 | .int _, _, _, _, _, h, h' | .bool, _, _, _, _, h, h' => by simp only [CD] at h h'; rw [h, h']
 | .sl _, _, _, _, hf, _, _ | .str, _, _, _, hf, _, _ => by simp [Ty.kf] at hf
 | .ar n e, xs, cs, cs', hf, h, h' => by
   simp only [CD] at h h'
   obtain ⟨hl, css, hc, rfl, h⟩ := h
   obtain ⟨hl', css', hc', rfl, h'⟩ := h'
   congr 1
   apply List.ext_getElem (by omega)
   intro i h1 h2
   exact CD.flat_eq (t := e) (by simpa only [Ty.kf] using hf) (h i (by omega) h1) (h' i (by omega) h2)
 | .a2 e, x, cs, cs', hf, h, h' => by
   simp only [CD] at h h'
   obtain ⟨c1, c2, rfl, h1, h2⟩ := h
   obtain ⟨d1, d2, rfl, h3, h4⟩ := h'
   simp only [Ty.kf] at hf
   rw [CD.flat_eq hf h1 h3, CD.flat_eq hf h2 h4]
 | .s1 a, x, cs, cs', hf, h, h' => by
   simp only [CD] at h h'
   exact CD.flat_eq (t := a) (by simpa only [Ty.kf] using hf) h h'
 | .s2 a b, x, cs, cs', hf, h, h' => by
   simp only [CD] at h h'
   obtain ⟨c1, c2, rfl, h1, h2⟩ := h
   obtain ⟨d1, d2, rfl, h3, h4⟩ := h'
   simp only [Ty.kf, Bool.and_eq_true] at hf
   rw [CD.flat_eq hf.1 h1 h3, CD.flat_eq hf.2 h2 h4]
 | .s3 a b c, x, cs, cs', hf, h, h' => by
   simp only [CD] at h h'
   obtain ⟨c1, c2, c3, rfl, h1, h2, h5⟩ := h
   obtain ⟨d1, d2, d3, rfl, h3, h4, h6⟩ := h'
   simp only [Ty.kf, Bool.and_eq_true] at hf
   rw [CD.flat_eq hf.1 h1 h3, CD.flat_eq hf.2.1 h2 h4, CD.flat_eq hf.2.2 h5 h6]
 | .s4 a b c d, x, cs, cs', hf, h, h' => by
   simp only [CD] at h h'
   obtain ⟨c1, c2, c3, c4, rfl, h1, h2, h5, h7⟩ := h
   obtain ⟨d1, d2, d3, d4, rfl, h3, h4, h6, h8⟩ := h'
   simp only [Ty.kf, Bool.and_eq_true] at hf
   rw [CD.flat_eq hf.1 h1 h3, CD.flat_eq hf.2.1 h2 h4, CD.flat_eq hf.2.2.1 h5 h6, CD.flat_eq hf.2.2.2 h7 h8]
/-- A cell of plain data. -/
def plainC : Value → Prop
 | .int _ _ | .bool _ => True
 | _ => False
theorem CD.plain : ∀ {t : Ty} {x : t.D} {cs : List Value}, t.kf = true → CD F w t x cs → ∀ c ∈ cs, plainC c
 | .int _, _, _, _, h | .bool, _, _, _, h => by simp only [CD] at h; subst h; simp [plainC]
 | .sl _, _, _, hf, _ | .str, _, _, hf, _ => by simp [Ty.kf] at hf
 | .ar n e, xs, cs, hf, h => by
   simp only [CD] at h
   obtain ⟨hl, css, hc, rfl, h⟩ := h
   intro c hcm
   simp only [List.mem_flatten] at hcm
   obtain ⟨l, hl1, hl2⟩ := hcm
   obtain ⟨i, hi, rfl⟩ := List.getElem_of_mem hl1
   exact CD.plain (t := e) (by simpa only [Ty.kf] using hf) (h i (by omega) hi) c hl2
 | .a2 e, x, cs, hf, h => by
   simp only [CD] at h
   obtain ⟨c1, c2, rfl, h1, h2⟩ := h
   simp only [Ty.kf] at hf
   intro c hc
   simp only [List.mem_append] at hc
   rcases hc with hc | hc
   · exact CD.plain hf h1 c hc
   · exact CD.plain hf h2 c hc
 | .s1 a, x, cs, hf, h => by
   simp only [CD] at h
   exact CD.plain (t := a) (by simpa only [Ty.kf] using hf) h
 | .s2 a b, x, cs, hf, h => by
   simp only [CD] at h
   obtain ⟨c1, c2, rfl, h1, h2⟩ := h
   simp only [Ty.kf, Bool.and_eq_true] at hf
   intro c hc
   simp only [List.mem_append] at hc
   rcases hc with hc | hc
   · exact CD.plain hf.1 h1 c hc
   · exact CD.plain hf.2 h2 c hc
 | .s3 a b c, x, cs, hf, h => by
   simp only [CD] at h
   obtain ⟨c1, c2, c3, rfl, h1, h2, h3⟩ := h
   simp only [Ty.kf, Bool.and_eq_true] at hf
   intro c hc
   simp only [List.mem_append] at hc
   rcases hc with hc | hc | hc
   · exact CD.plain hf.1 h1 c hc
   · exact CD.plain hf.2.1 h2 c hc
   · exact CD.plain hf.2.2 h3 c hc
 | .s4 a b c d, x, cs, hf, h => by
   simp only [CD] at h
   obtain ⟨c1, c2, c3, c4, rfl, h1, h2, h3, h4⟩ := h
   simp only [Ty.kf, Bool.and_eq_true] at hf
   intro c hc
   simp only [List.mem_append] at hc
   rcases hc with hc | hc | hc | hc
   · exact CD.plain hf.1 h1 c hc
   · exact CD.plain hf.2.1 h2 c hc
   · exact CD.plain hf.2.2.1 h3 c hc
   · exact CD.plain hf.2.2.2 h4 c hc
theorem sameBits_plain {c : Value} (h : plainC c) (n : Nat) : Instr.sameBits n c c = true := by
 cases c <;> simp only [plainC] at h <;> simp [Instr.sameBits]
theorem shaped_eq {a : AV} {u v : Value} (hu : Shaped a u) (hv : Shaped a v) (hc : u.cells.toList = v.cells.toList) : u = v := by
 have hc : u.cells = v.cells := Array.toList_inj.mp hc
 unfold Shaped at hu hv
 split at hu
 · rename_i hagg
   rw [if_pos hagg] at hv
   obtain ⟨cu, rfl⟩ := hu
   obtain ⟨cv, rfl⟩ := hv
   simp only [Value.cells] at hc
   rw [hc]
 · rename_i hagg
   rw [if_neg hagg] at hv
   rw [hu, hv] at hc
   simpa using hc
theorem sameBits_key {k : Ty} {x : k.D} {u v : Value} (hf : k.kf = true) (h1 : CD F w k x u.cells.toList) (h2 : CD F w k x v.cells.toList) (s1 : Shaped (ofD k x) u) (s2 : Shaped (ofD k x) v) : Instr.sameBits 10000 u v = true := by
 have := shaped_eq s1 s2 (CD.flat_eq hf h1 h2)
 subst this
 have hp := CD.plain hf h1
 unfold Shaped at s1
 split at s1
 · obtain ⟨cs, rfl⟩ := s1
   simp only [Value.cells] at hp
   simp only [Instr.sameBits, beq_self_eq_true, Bool.true_and, List.all_eq_true]
   intro p hpm
   have := List.of_mem_zip hpm
   have hpe : p.1 = p.2 := by
     obtain ⟨i, hi, rfl⟩ := List.getElem_of_mem hpm
     simp
   rw [show p = (p.1, p.2) from rfl, ← hpe]
   exact sameBits_plain (hp p.1 this.1) _
 · rw [s1] at hp
   exact sameBits_plain (hp u (by simp)) _
def mGet (k : Ty) {V : Type} : List (k.D × V) → k.D → Option V
 | [], _ => none
 | e :: l, x => (match k.deq x e.1 with
   | .isTrue _ => some e.2
   | .isFalse _ => mGet k l x)
def mPut (k : Ty) {V : Type} : List (k.D × V) → k.D → V → List (k.D × V)
 | [], x, y => [(x, y)]
 | e :: l, x, y => (match k.deq x e.1 with
   | .isTrue _ => (x, y) :: l
   | .isFalse _ => e :: mPut k l x y)
theorem shaped_val {k : Ty} {x : k.D} {u : Value} {agg : Bool} (hs : Shaped (ofD k x) u) (ha : agg = (ofD k x).isAgg) : valOf agg u.cells.toList = u := by
 unfold Shaped at hs
 subst ha
 split at hs
 · rename_i h
   obtain ⟨cs, rfl⟩ := hs
   simp [valOf, h, Value.cells]
 · rename_i h
   simp only [Bool.not_eq_true] at h
   rw [hs]; simp [valOf, h]
/-- How an entry is found. -/
theorem run_findKey (hX : X.Ok) {T : TypeId} {ti : TI} (hti : X.tt T = some ti) (hp : ti.pure = true) (hq : eqT X 8 T = true) {k v : Ty} (hk : ti.ty = k) {x : k.D} {u : Value} (hx : CD F w k x u.cells.toList) (hs : Shaped (ofD k x) u)
   (hag : ti.ds.agg = (ofD k x).isAgg) (hagk : ∀ y : k.D, (ofD k y).isAgg = (ofD k x).isAgg) : ∀ {m : List (k.D × v.D)} {es : List MapEntry} (i : Nat), MR F w k v m es →
   ((Instr.findAsking T u es i).run X.P w = .ok none w ∧ mGet k m x = none ∧ ∀ (y : v.D) (kv vv : Value) (bn : Nat), CD F w k x kv.cells.toList → Shaped (ofD k x) kv → CD F w v y vv.cells.toList → Shaped (ofD v y) vv → MR F w k v (mPut k m x y) (es ++ [⟨kv, vv, bn⟩])) ∨
   ∃ j e z, (Instr.findAsking T u es i).run X.P w = .ok (some (i + j, e.val)) w ∧ es[j]? = some e ∧ mGet k m x = some z ∧ CD F w k x e.key.cells.toList ∧ Shaped (ofD k x) e.key ∧ CD F w v z e.val.cells.toList ∧ Shaped (ofD v z) e.val ∧
     ∀ (y : v.D) (kv vv : Value), CD F w k x kv.cells.toList → Shaped (ofD k x) kv → CD F w v y vv.cells.toList → Shaped (ofD v y) vv → MR F w k v (mPut k m x y) (es.modify j fun e => { e with key := kv, val := vv })
 | [], es, i, h => by
   simp only [MR] at h
   subst h
   exact .inl ⟨by simp [Instr.findAsking], rfl, fun y kv vv bn h1 h2 h3 h4 => ⟨⟨kv, vv, bn⟩, [], rfl, h1, h2, h3, h4, rfl⟩⟩
 | e :: m, es, i, h => by
   obtain ⟨e', es', rfl, h1, h2, h3, h4, h5⟩ := h
   have heq : (Op.equal T u e'.key).run X.P w = .ok (@decide (x = e.1) (k.deq x e.1)) w := by
     have := run_eqT hX 8 (Op.maxDepth - 8) T k hq (fun t ht => by rw [hti] at ht; injection ht with ht; rw [← ht]; exact hk) ti hti x e.1 _ _ hx h1
     rw [shaped_val hs hag, shaped_val h2 (hag.trans (hagk e.1).symm)] at this
     rw [Op.equal]
     exact this
   by_cases hxe : x = e.1
   · have hd : (k.deq x e.1) = .isTrue hxe := by
       cases k.deq x e.1 with
       | isTrue _ => rfl
       | isFalse h => exact absurd hxe h
     refine .inr ⟨0, e', e.2, ?_, rfl, by simp only [mGet, hd], by rw [hxe]; exact h1, by rw [hxe]; exact h2, h3, h4, fun y kv vv g1 g2 g3 g4 => ?_⟩
     · simp only [Instr.findAsking, Sem.run_bind, heq, Result.andThen_ok, hxe, decide_true, if_true, Sem.run_pure, Nat.add_zero]
     · simp only [mPut, hd, List.modify_zero_cons]
       exact ⟨_, es', rfl, g1, g2, g3, g4, h5⟩
   · have hd : (k.deq x e.1) = .isFalse hxe := by
       cases k.deq x e.1 with
       | isTrue h => exact absurd h hxe
       | isFalse _ => rfl
     have hstep : (Instr.findAsking T u (e' :: es') i).run X.P w = (Instr.findAsking T u es' (i + 1)).run X.P w := by
       simp only [Instr.findAsking, Sem.run_bind, heq, Result.andThen_ok, hd]
       simp [hxe]
     rcases run_findKey hX hti hp hq hk hx hs hag hagk (i + 1) h5 with ⟨g1, g2, g3⟩ | ⟨j, e0, z, g1, g2, g3, g4, g5, g6, g7, g8⟩
     · refine .inl ⟨by rw [hstep]; exact g1, by simp only [mGet, hd]; exact g2, fun y kv vv bn q1 q2 q3 q4 => ?_⟩
       simp only [mPut, hd]
       exact ⟨e', _, rfl, h1, h2, h3, h4, g3 y kv vv bn q1 q2 q3 q4⟩
     · refine .inr ⟨j + 1, e0, z, by rw [hstep, g1]; simp only [Nat.add_assoc, Nat.add_comm 1 j], by simpa using g2, by simp only [mGet, hd]; exact g3, g4, g5, g6, g7, fun y kv vv q1 q2 q3 q4 => ?_⟩
       simp only [mPut, hd, List.modify_succ_cons]
       exact ⟨e', _, rfl, h1, h2, h3, h4, g8 y kv vv q1 q2 q3 q4⟩
end
section
variable {X : Cx} {G : En} {E : Env} {F : Nat → Prop} {st : St} {a : Act} {w : World}
theorem toD_form : ∀ {t : Ty} {x : AV} {d : t.D}, toD t x = some d → (ofD t d).isAgg = x.isAgg ∧ isTup x = false ∧ x ≠ .dead
 | .int k, x, d, h => by
   have h' : toInt k x = some d := h
   cases x with
   | dead => simp [toInt] at h'
   | _ => first | (simp [toInt] at h'; done) | (refine ⟨rfl, rfl, ?_⟩; simp)
 | .bool, x, d, h => by
   have h' : toB x = some d := h
   cases x with
   | dead => simp [toB] at h'
   | _ => first | (simp [toB] at h'; done) | (refine ⟨rfl, rfl, ?_⟩; simp)
 | .str, x, d, h => by
   have h' : toS x = some d := h
   cases x with
   | dead => simp [toS] at h'
   | _ => first | (simp [toS] at h'; done) | (refine ⟨rfl, rfl, ?_⟩; simp)
 | .sl e, x, d, h => by
   have h' : toSl e x = some d := h
   cases x with
   | dead => simp [toSl] at h'
   | _ => first | (simp [toSl] at h'; done) | (refine ⟨rfl, rfl, ?_⟩; simp)
 | .ar n e, x, d, h => by
   have h' : toAr n e x = some d := h
   cases x with
   | dead => simp [toAr] at h'
   | _ => first | (simp [toAr] at h'; done) | (refine ⟨rfl, rfl, ?_⟩; simp)
 | .a2 e, x, d, h => by
   simp only [toD, Option.map_eq_some_iff] at h
   obtain ⟨xs, h', _⟩ := h
   cases x with
   | dead => simp [toAr] at h'
   | _ => first | (simp [toAr] at h'; done) | (refine ⟨rfl, rfl, ?_⟩; simp)
 | .s1 _, x, d, h => by
   cases x with
   | dead => simp [toD, un1] at h
   | _ => first | (simp [toD, un1] at h; done) | (refine ⟨rfl, rfl, ?_⟩; simp)
 | .s2 _ _, x, d, h => by
   cases x with
   | dead => simp [toD, un2] at h
   | _ => first | (simp [toD, un2] at h; done) | (refine ⟨rfl, rfl, ?_⟩; simp)
 | .s3 _ _ _, x, d, h => by
   cases x with
   | dead => simp [toD, un3] at h
   | _ => first | (simp [toD, un3] at h; done) | (refine ⟨rfl, rfl, ?_⟩; simp)
 | .s4 _ _ _ _, x, d, h => by
   cases x with
   | dead => simp [toD, un4] at h
   | _ => first | (simp [toD, un4] at h; done) | (refine ⟨rfl, rfl, ?_⟩; simp)
theorem TR.toD {I : Nat → Option Inf} {t : Ty} {x : AV} {d : t.D} {u : Value} (h : Am.toD t x = some d) (hx : TR E I F w x u) : TR E I F w (ofD t d) u := by
 obtain ⟨h1, h2, h3⟩ := toD_form h
 have := hx.notup h2 h3
 exact TR.of_VR (CR.ofD (CD.of_toD h this.1)) (by simpa only [Shaped, h1] using this.2)
theorem ofD_isAgg : ∀ (t : Ty) (x y : t.D), (ofD t x).isAgg = (ofD t y).isAgg
 | .int _, _, _ | .bool, _, _ | .str, _, _ | .sl _, _, _ | .ar _ _, _, _ | .a2 _, _, _ | .s1 _, _, _ | .s2 _ _, _, _ | .s3 _ _ _, _, _ | .s4 _ _ _ _, _, _ => rfl
theorem TR.toD2 {I : Nat → Option Inf} {t : Ty} {x : AV} {d : t.D} {u : Value} (h : Am.toD t x = some d) (hx : TR E I F w x u) : CD F w t d u.cells.toList ∧ Shaped (ofD t d) u := by
 obtain ⟨h1, h2, h3⟩ := toD_form h
 have := hx.notup h2 h3
 exact ⟨CD.of_toD h this.1, by simpa only [Shaped, h1] using this.2⟩
def intKey (d : Ds) (k : Ty) : Bool := match d, k with
 | .int a, .int b => kEq a b
 | _, _ => false
def mapTy (X : Cx) (T : TypeId) (k v : Ty) : Option (TypeId × TypeId × TI × TI) :=
 match X.tt T with
 | some ti => (match ti.ds with
   | .mp kT eT => (match X.tt kT, X.tt eT with
     | some kti, some eti => (match decide (kti.ty = k) && (decide (eti.ty = v) && (kti.pure && (eti.pure && ((kti.ds.agg || intKey kti.ds k) && (((kti.ds.agg == (ofD k k.dflt).isAgg) && (eti.ds.agg == (ofD v v.dflt).isAgg)) && (k.kf && (eqT X 8 kT && keyT X 8 kT))))))) with
       | true => some (kT, eT, kti, eti)
       | false => none)
     | _, _ => none)
   | _ => none)
 | none => none
def effL (X : Cx) (gl : Nat → Option ((t : Ty) × t.D)) (st : St) (o : Oper) : Option (AV × Prop) :=
 match o.op with
 | .lookup T m key co => (match evalA gl st m, evalA gl st key with
   | some (.mp q), some u => (match st.ob[q]? with
     | some (.mo k v M) => (match mapTy X T k v, toD k u with
       | some _, some x => (match co with
         | true => some (.tup [ofD v ((mGet k M x).getD v.dflt), .bool (mGet k M x).isSome], True)
         | false => some (ofD v ((mGet k M x).getD v.dflt), True))
       | _, _ => none)
     | _ => none)
   | _, _ => none)
 | _ => none
end
section
variable {X : Cx} {G : En} {E : Env} {F : Nat → Prop} {st : St} {a : Act} {w : World}
theorem mapTy_spec (hX : X.Ok) {T : TypeId} {k v : Ty} {r : TypeId × TypeId × TI × TI} (h : mapTy X T k v = some r) : X.P.underlying T = some (.map r.1 r.2.1) ∧ X.tt r.1 = some r.2.2.1 ∧ X.tt r.2.1 = some r.2.2.2 ∧ r.2.2.1.ty = k ∧ r.2.2.2.ty = v ∧
   r.2.2.1.pure = true ∧ r.2.2.2.pure = true ∧ (r.2.2.1.ds.agg = true ∨ intKey r.2.2.1.ds k = true) ∧ (r.2.2.1.ds.agg = (ofD k k.dflt).isAgg ∧ r.2.2.2.ds.agg = (ofD v v.dflt).isAgg) ∧ k.kf = true ∧ eqT X 8 r.1 = true ∧ keyT X 8 r.1 = true := by
 unfold mapTy at h
 split at h <;> try (cases h; done)
 rename_i ti hti
 split at h <;> try (cases h; done)
 rename_i kT eT hds
 split at h <;> try (cases h; done)
 rename_i kti eti h1 h2
 split at h <;> try (cases h; done)
 rename_i hb
 injection h with h; subst h
 simp only [Bool.and_eq_true, Bool.or_eq_true, decide_eq_true_eq, beq_iff_eq] at hb
 obtain ⟨b1, b2, b3, b4, b5, b6, b7, b8, b9⟩ := hb
 obtain ⟨dd, hu, hdd⟩ := (hX.tt _ _ hti).under
 rw [hds] at hdd
 refine ⟨?_, h1, h2, b1, b2, b3, b4, b5, b6, b7, b8, b9⟩
 cases dd <;> simp only [dsOf] at hdd <;> try (cases hdd; done)
 injection hdd with e1 e2; subst e1 e2
 exact hu
theorem findKey_agg (hX : X.Ok) {T : TypeId} {ti : TI} (hti : X.tt T = some ti) (hag : ti.ds.agg = true) (u : Value) (es : List MapEntry) : (Instr.findKey T u es).run X.P w = (Instr.findAsking T u es).run X.P w := by
 obtain ⟨dd, hu, hdd⟩ := (hX.tt _ _ hti).under
 have hnow : ∀ e l, Instr.findNow dd u (e :: l) 0 = none := fun e l => by
   rw [← hdd] at hag
   cases dd <;> simp only [dsOf, Ds.agg, Bool.false_eq_true] at hag <;> simp [Instr.findNow, Instr.sameNow]
 simp only [Instr.findKey, Sem.run_bind, run_underlying hu, Result.andThen_ok]
 cases es with
 | nil => simp [Instr.findNow, Instr.findAsking]
 | cons e l => rw [hnow]
/-- Keys that are numbers are compared at once. -/
theorem findNow_int {T : TypeId} {ki : IntKind} {v : Ty} {x : Int} {P : Program} (heq : ∀ y : Int, (Op.equal T (.int ki x) (.int ki y)).run P w = .ok (decide (x = y)) w) : ∀ {m : List ((Ty.int ki).D × v.D)} {es : List MapEntry} (i : Nat), MR F w (.int ki) v m es →
   ∃ r, Instr.findNow (.int ki) (.int ki x) es i = some r ∧ (Instr.findAsking T (.int ki x) es i).run P w = .ok r w
 | [], es, i, h => by
   simp only [MR] at h
   subst h
   exact ⟨none, rfl, by simp [Instr.findAsking]⟩
 | e :: m, es, i, h => by
   obtain ⟨e', es', rfl, h1, h2, h3, h4, h5⟩ := h
   have hkey : e'.key = .int ki e.1 := by
     simp only [CD] at h1
     simp only [ofD, Shaped, AV.isAgg, Bool.false_eq_true, if_false] at h2
     rw [h2] at h1
     simpa using h1
   by_cases hxe : x = (e.1 : Int)
   · refine ⟨some (i, e'.val), ?_, ?_⟩
     · simp [Instr.findNow, Instr.sameNow, hkey, hxe]
     · simp only [Instr.findAsking, Sem.run_bind, hkey]
       rw [heq e.1]
       simp [Result.andThen, hxe]
   · obtain ⟨r, g1, g2⟩ := findNow_int heq (i + 1) h5
     refine ⟨r, ?_, ?_⟩
     · have hb : (x == (e.1 : Int)) = false := by simpa using hxe
       simp only [Instr.findNow, Instr.sameNow, hkey, if_true, hb]
       exact g1
     · simp only [Instr.findAsking, Sem.run_bind, hkey]
       rw [heq e.1]
       simp [Result.andThen, hxe, g2]
/-- What is found, and what is there. -/
theorem run_find (hX : X.Ok) {T : TypeId} {k v : Ty} {r : TypeId × TypeId × TI × TI} (hm : mapTy X T k v = some r) {x : k.D} {u : Value} (hx : CD F w k x u.cells.toList) (hs : Shaped (ofD k x) u) {M : List (k.D × v.D)} {es : List MapEntry} (hM : MR F w k v M es) (em : Bool) :
   (Instr.checkKey em 10000 r.1 u).run X.P w = .ok () w ∧
   (((Instr.findKey r.1 u es).run X.P w = .ok none w ∧ mGet k M x = none ∧ ∀ (y : v.D) (kv vv : Value) (bn : Nat), CD F w k x kv.cells.toList → Shaped (ofD k x) kv → CD F w v y vv.cells.toList → Shaped (ofD v y) vv → MR F w k v (mPut k M x y) (es ++ [⟨kv, vv, bn⟩])) ∨
   ∃ j e z, (Instr.findKey r.1 u es).run X.P w = .ok (some (j, e.val)) w ∧ es[j]? = some e ∧ mGet k M x = some z ∧ CD F w k x e.key.cells.toList ∧ Shaped (ofD k x) e.key ∧ CD F w v z e.val.cells.toList ∧ Shaped (ofD v z) e.val ∧
     ∀ (y : v.D) (kv vv : Value), CD F w k x kv.cells.toList → Shaped (ofD k x) kv → CD F w v y vv.cells.toList → Shaped (ofD v y) vv → MR F w k v (mPut k M x y) (es.modify j fun e => { e with key := kv, val := vv })) := by
 obtain ⟨h1, h2, h3, h4, h5, h6, h7, h8, h9, h10, h11, h12⟩ := mapTy_spec hX hm
 have hagx : r.2.2.1.ds.agg = (ofD k x).isAgg := by rw [ofD_isAgg k x k.dflt]; exact h9.1
 have hck := run_keyT (F := F) (w := w) hX em 8 (10000 - 8) r.1 k h12 (fun t ht => by rw [h2] at ht; injection ht with ht; rw [← ht]; exact h4) _ h2 x _ hx
 rw [shaped_val hs hagx] at hck
 refine ⟨hck, ?_⟩
 have hfk : (Instr.findKey r.1 u es).run X.P w = (Instr.findAsking r.1 u es).run X.P w := by
   rcases h8 with h8 | h8
   · exact findKey_agg hX h2 h8 u es
   · obtain ⟨dd, hu, hdd⟩ := (hX.tt _ _ h2).under
     unfold intKey at h8
     split at h8 <;> try (cases h8; done)
     rename_i a b hds
     have hab := kEq_eq h8
     subst hab
     have hdd' : dd = .int a := by rw [hds] at hdd; cases dd <;> simp only [dsOf] at hdd <;> try (cases hdd; done)
                                   injection hdd with hdd; rw [hdd]
     subst hdd'
     have hux : u = .int a x := by
       simp only [CD] at hx
       simp only [ofD, Shaped, AV.isAgg, Bool.false_eq_true, if_false] at hs
       rw [hs] at hx
       simpa using hx
     subst hux
     obtain ⟨q, g1, g2⟩ := findNow_int (F := F) (w := w) (T := r.1) (P := X.P) (fun y => by
       have := run_eqT (F := F) (w := w) hX 8 (Op.maxDepth - 8) r.1 (.int a) h11 (fun t ht => by rw [h2] at ht; injection ht with ht; rw [← ht]; exact h4) _ h2 x y [.int a x] [.int a y] (by simp only [CD]) (by simp only [CD])
       rw [show r.2.2.1.ds.agg = false by rw [hds]; rfl] at this
       rw [Op.equal]
       refine this.trans ?_
       congr) 0 hM
     rw [g2]
     simp only [Instr.findKey, Sem.run_bind, run_underlying hu, Result.andThen_ok, g1, Sem.run_pure]
 rw [hfk]
 rcases run_findKey hX h2 h6 h11 h4 hx hs hagx (fun y => ofD_isAgg k y x) 0 hM with g | ⟨j, e, z, g1, g⟩
 · exact .inl g
 · exact .inr ⟨j, e, z, by rw [g1, Nat.zero_add], g⟩
theorem run_effL (hX : X.Ok) (h : Rel G E F st a w) {o : Oper} {v : AV} {p : Prop} (he : effL X G.gl st o = some (v, p)) :
   ∃ r, (execOp a.eval o).run X.P w = .ok (.value r) w ∧ TR E st.inf F w v r := by
 unfold effL at he
 split at he <;> try (cases he; done)
 rename_i T m key co ho
 split at he <;> try (cases he; done)
 rename_i q u hm hk
 split at he <;> try (cases he; done)
 rename_i kt vt M hob
 split at he <;> try (cases he; done)
 rename_i r x hmt hx
 have hmap := one_cell (h.eval hm) rfl
 simp only [CR] at hmap
 injection hmap with hmap _
 obtain ⟨es, clock, hb, hM⟩ := h.obs _ _ hob
 obtain ⟨hx1, hx2⟩ := TR.toD2 hx (h.eval hk)
 obtain ⟨h1, h2, h3, h4, h5, h6, h7, h8, h9, _⟩ := mapTy_spec hX hmt
 obtain ⟨hck, hfind⟩ := run_find hX hmt hx1 hx2 hM es.isEmpty
 have eok := hX.tt _ _ h3
 have hzero := (pure_zero (F := F) (w := w) eok h7).1
 have hzs : Shaped (ofD vt vt.dflt) r.2.2.2.zv := by
   have hz8 := shaped_of_B eok.shaped
   have h10 : (ofD vt vt.dflt).isAgg = r.2.2.2.zero.isAgg := by rw [← h9.2, eok.agg]
   simpa only [Shaped, h10] using hz8
 rw [h5] at hzero
 have key : ∃ val : Value, ∃ ok : Bool, (Instr.lookup T (a.eval m) (a.eval key) co).run X.P w = .ok (if co then .tuple #[val, .bool ok] else val) w ∧ CD F w vt ((mGet kt M x).getD vt.dflt) val.cells.toList ∧ Shaped (ofD vt ((mGet kt M x).getD vt.dflt)) val ∧ ok = (mGet kt M x).isSome := by
   rcases hfind with ⟨g1, g2, _⟩ | ⟨j, e, z, g1, g2, g3, g4, g5, g6, g7, _⟩
   · refine ⟨r.2.2.2.zv, false, ?_, by rw [g2]; exact hzero, by rw [g2]; exact hzs, by rw [g2]; rfl⟩
     rw [hmap]
     simp [Instr.lookup, run_underlying h1, MapKept.run_getObj_map hb, hck, g1, eok.run_zeroValue, Result.andThen]
   · refine ⟨e.val, true, ?_, by rw [g3]; exact g6, by rw [g3]; exact g7, by rw [g3]; rfl⟩
     rw [hmap]
     simp [Instr.lookup, run_underlying h1, MapKept.run_getObj_map hb, hck, g1, Result.andThen]
 obtain ⟨val, ok, g1, g2, g3, g4⟩ := key
 cases co with
 | true =>
   injection he with he; injection he with e1 e2; subst e1
   refine ⟨.tuple #[val, .bool ok], by simp [execOp, ho, g1], ?_⟩
   refine ⟨[val, .bool ok], rfl, val, _, rfl, CR.ofD g2, g3, .bool ok, [], rfl, ?_, ?_, rfl⟩
   · simp [CR, Value.cells, g4]
   · simp [Shaped, AV.isAgg, Value.cells]
 | false =>
   injection he with he; injection he with e1 e2; subst e1
   exact ⟨val, by simp [execOp, ho, g1], TR.of_VR (CR.ofD g2) g3⟩
def effMx (X : Cx) (gl : Nat → Option ((t : Ty) × t.D)) (st : St) (T : TypeId) (m key val : Operand) : Option (Nat × Ob) :=
 match evalA gl st m, evalA gl st key, evalA gl st val with
 | some (.mp q), some u, some z => (match st.ob[q]? with
   | some (.mo k v M) => (match mapTy X T k v, toD k u, toD v z with
     | some _, some x, some y => some (q, .mo k v (mPut k M x y))
     | _, _, _ => none)
   | _ => none)
 | _, _, _ => none
def effM (X : Cx) (gl : Nat → Option ((t : Ty) × t.D)) (st : St) (o : Oper) : Option (Nat × Ob) :=
 match o.op with
 | .mapUpdate T m key val => effMx X gl st T m key val
 | .insert T m key val => effMx X gl st T m key val
 | _ => none
theorem effM_spec {X : Cx} {gl : Nat → Option ((t : Ty) × t.D)} {st : St} {o : Oper} {r : Nat × Ob} (h : effM X gl st o = some r) : ∃ T m key vl, (o.op = .mapUpdate T m key vl ∨ o.op = .insert T m key vl) ∧ effMx X gl st T m key vl = some r := by
 unfold effM at h
 split at h
 · rename_i T m key vl ho
   exact ⟨T, m, key, vl, .inl ho, h⟩
 · rename_i T m key vl ho
   exact ⟨T, m, key, vl, .inr ho, h⟩
 · cases h
theorem run_effM (hX : X.Ok) (h : Rel G E F st a w) {o : Oper} {q : Nat} {ob : Ob} (he : effM X G.gl st o = some (q, ob)) :
   ∃ w', (execOp a.eval o).run X.P w = .ok .skip w' ∧ Rel G E F (st.setO q ob) a w' := by
 obtain ⟨T, m, key, vl, ho, he⟩ := effM_spec he
 unfold effMx at he
 split at he <;> try (cases he; done)
 rename_i q' u z hm hk hv
 split at he <;> try (cases he; done)
 rename_i kt vt M hob
 split at he <;> try (cases he; done)
 rename_i r x y hmt hx hy
 injection he with he; injection he with e1 e2; subst e1 e2
 have hmap := one_cell (h.eval hm) rfl
 simp only [CR] at hmap
 injection hmap with hmap _
 obtain ⟨es, clock, hb, hM⟩ := h.obs _ _ hob
 obtain ⟨hx1, hx2⟩ := TR.toD2 hx (h.eval hk)
 obtain ⟨hy1, hy2⟩ := TR.toD2 hy (h.eval hv)
 obtain ⟨h1, h2, h3, h4, h5, h6, h7, h8, h9, h10, _⟩ := mapTy_spec hX hmt
 obtain ⟨hck, hfind⟩ := run_find hX hmt hx1 hx2 hM false
 have hlv : st.live q' := by simp [St.live, St.inf, hob, Ob.inf]
 have hsz := (h.apart q' hlv).2
 have fin : ∀ (es' : Array MapEntry) (clock' : Nat), MR F w kt vt (mPut kt M x y) es'.toList → (Instr.mapUpdate T (a.eval m) (a.eval key) (a.eval vl)).run X.P w = .ok () { w with heap := w.heap.setIfInBounds (E.β q') (.map es' clock') } →
     ∃ w', (execOp a.eval o).run X.P w = .ok .skip w' ∧ Rel G E F (st.setO q' (.mo kt vt (mPut kt M x y))) a w' := fun es' clock' hM' hrun => by
   refine ⟨_, by rcases ho with ho | ho <;> (simp only [execOp, ho, Sem.run_bind, hrun, Result.andThen_ok, Sem.run_pure] <;> rfl), ?_⟩
   have hother : ∀ b, b ≠ E.β q' → ({ w with heap := w.heap.setIfInBounds (E.β q') (.map es' clock') } : World).heap[b]? = w.heap[b]? := fun b hne => by
     simp only [Array.getElem?_setIfInBounds]
     rw [if_neg (fun e => hne e.symm)]
   refine h.updOb hob rfl rfl rfl rfl rfl (by simp) hother ?_
   refine ⟨es', clock', by simp [hsz], ?_⟩
   exact hM'.mono fun b hbF => ⟨hbF, hother b fun e => (h.apart q' hlv).1 (e ▸ hbF)⟩
 rcases hfind with ⟨g1, g2, g3⟩ | ⟨j, e, z', g1, g2, g3, g4, g5, g6, g7, g8⟩
 · refine fin (es.push ⟨a.eval key, a.eval vl, clock⟩) (clock + 1) ?_ ?_
   · rw [Array.toList_push]; exact g3 y _ _ clock hx1 hx2 hy1 hy2
   · rw [hmap]
     simp [Instr.mapUpdate, run_underlying h1, MapKept.run_getObj_map hb, hck, g1, MapKept.run_setObj_map _ hb, Result.andThen]
 · have hkey : (es[j]?.map (·.key)).getD (a.eval key) = e.key := by
     have : es[j]? = some e := by rw [← Array.getElem?_toList]; exact g2
     rw [this]; rfl
   have hbits := sameBits_key h10 g4 hx1 g5 hx2
   refine fin (es.modify j fun e => { e with key := a.eval key, val := a.eval vl }) clock ?_ ?_
   · rw [Array.toList_modify]; exact g8 y _ _ hx1 hx2 hy1 hy2
   · rw [hmap]
     simp [Instr.mapUpdate, run_underlying h1, MapKept.run_getObj_map hb, hck, g1, MapKept.run_setObj_map _ hb, Result.andThen, hkey, Instr.keyThatStays, hbits]
end
/-- A slice that is looked at, against nil: it must be known that it is not empty. -/
def effNl (X : Cx) (gl : Nat → Option ((t : Ty) × t.D)) (st : St) (o : Oper) : Option (AV × Prop) :=
 match o.op with
 | .binOp op T x y _ => (match X.tt T with
   | some ti => (match ti.ds, evalA gl st x, evalA gl st y, op with
     | .sl _, some (.sl _ xs), some (.vv (.slice none _ _)), .eql => some (.ff, xs ≠ [])
     | .sl _, some (.sl _ xs), some (.vv (.slice none _ _)), .neq => some (.tt, xs ≠ [])
     | _, _, _, _ => none)
   | none => none)
 | _ => none
theorem run_effNl {X : Cx} {G : En} {E : Env} {F : Nat → Prop} {st : St} {a : Act} {w : World} (hX : X.Ok) (h : Rel G E F st a w) {o : Oper} {v : AV} {p : Prop} (he : effNl X G.gl st o = some (v, p)) (hp : p) :
   ∃ r, (execOp a.eval o).run X.P w = .ok (.value r) w ∧ TR E st.inf F w v r := by
 unfold effNl at he
 split at he <;> try (cases he; done)
 rename_i op T x y yT ho
 split at he <;> try (cases he; done)
 rename_i ti hti
 obtain ⟨d, hd, hdd⟩ := (hX.tt _ _ hti).under
 have key : ∀ (e : TypeId) (et : Ty) (xs : List et.D) (n c : Nat), ti.ds = .sl e → evalA G.gl st x = some (.sl et xs) → evalA G.gl st y = some (.vv (.slice none n c)) → xs ≠ [] → EqNil X.P w T (a.eval x) (a.eval y) false := by
   intro e et xs n c h1 h2 h3 h4
   rw [h1] at hdd
   cases d <;> simp only [dsOf] at hdd <;> try (cases hdd; done)
   have e2 := one_cell (h.eval h3) rfl
   simp only [CR] at e2
   have e2 : a.eval y = .slice none n c := by simpa using e2.1
   obtain ⟨A, k, e1, _, e3⟩ := one_sl (h.eval h2)
   have hpos : 0 < xs.length := by
     cases xs with
     | nil => exact absurd rfl h4
     | cons => simp
   obtain ⟨ad, _, hA, _⟩ := e3 0 hpos
   subst hA
   rw [e1, e2]
   exact EqNil.slice hd _ _ _ _ _
 split at he <;> try (cases he; done)
 · rename_i e et xs n c h1 h2 h3
   injection he with he; injection he with g1 g2; subst g1 g2
   have g := key e et xs n c h1 h2 h3 hp
   exact ⟨_, by simp only [execOp, ho, Sem.run_bind, eqGuard_ok g.agg g.ifc, Result.andThen_ok, g.eql, g.run, Sem.run_pure], TR.ff⟩
 · rename_i e et xs n c h1 h2 h3
   injection he with he; injection he with g1 g2; subst g1 g2
   have g := key e et xs n c h1 h2 h3 hp
   exact ⟨_, by simp only [execOp, ho, Sem.run_bind, eqGuard_ok g.agg g.ifc, Result.andThen_ok, g.neq, g.run, Sem.run_pure, Bool.not_false], TR.tt⟩
def effQ (X : Cx) (gl : Nat → Option ((t : Ty) × t.D)) (st : St) (o : Oper) : Option (AV × Prop) :=
 match o.op with
 | .binOp _ _ _ _ _ => (match effE X gl st o with
   | some r => some r
   | none => (match effNl X gl st o with
     | some r => some r
     | none => effP X gl st o))
 | .lookup _ _ _ _ => effL X gl st o
 | _ => effP X gl st o
theorem run_effQ {X : Cx} {G : En} {E : Env} {F : Nat → Prop} {st : St} {a : Act} {w : World} (hX : X.Ok) (h : Rel G E F st a w) {o : Oper} {v : AV} {p : Prop} (he : effQ X G.gl st o = some (v, p)) (hp : p) :
   ∃ r, (execOp a.eval o).run X.P w = .ok (.value r) w ∧ TR E st.inf F w v r := by
 unfold effQ at he
 split at he
 · split at he
   · rename_i r hr
     injection he with he; subst he
     exact run_effE hX h hr
   · split at he
     · rename_i r hr
       injection he with he; subst he
       exact run_effNl hX h hr hp
     · exact run_effP hX h he hp
 · exact run_effL hX h he
 · exact run_effP hX h he hp
def effK (X : Cx) (gl : Nat → Option ((t : Ty) × t.D)) (st : St) (nid : Nat) (o : Oper) : Option (Ob × AV × Prop) :=
 match o.op with
 | .makeMap T none => (match X.tt T with
   | some ti => (match ti.ds with
     | .mp kT eT => (match X.tt kT, X.tt eT with
       | some kti, some eti => some (.mo kti.ty eti.ty [], .mp nid, True)
       | _, _ => none)
     | _ => none)
   | none => none)
 | _ => effN X gl st nid o
section
variable {X : Cx} {G : En} {E : Env} {F : Nat → Prop} {st : St} {a : Act} {w : World}
theorem run_effK (hX : X.Ok) (h : Rel G E F st a w) {nid : Nat} {o : Oper} {ob : Ob} {v : AV} {p : Prop} (hf : st.fresh nid = true) (he : effK X G.gl st nid o = some (ob, v, p)) (hp : p) :
   ∃ r obj cap, (execOp a.eval o).run X.P w = .ok (.value r) (w.alloc obj) ∧ OR (E.set nid w.heap.size cap) (st.setO nid ob).inf F (w.alloc obj) nid ob ∧
   TR (E.set nid w.heap.size cap) (st.setO nid ob).inf F (w.alloc obj) v r := by
 unfold effK at he
 split at he
 · rename_i T ho
   split at he <;> try (cases he; done)
   split at he <;> try (cases he; done)
   split at he <;> try (cases he; done)
   injection he with he; injection he with h1 h2; injection h2 with h2 h3; subst h1 h2
   refine ⟨.map (some w.heap.size), .map #[] 0, 0, ?_, ?_, ?_⟩
   · simp only [execOp, ho, Option.map_none, Instr.makeMap, Sem.run_bind, run_newObj, Result.andThen_ok, Sem.run_pure]
     rfl
   · refine ⟨#[], 0, ?_, by simp [MR]⟩
     simp only [Env.set, if_true]
     exact heap_alloc_new w _
   · refine TR.of_VR ?_ (by simp [Shaped, AV.isAgg, Value.cells])
     simp [CR, Value.cells, Env.set]
 · exact run_effN hX h hf he hp
def fz1 (o ver : Nat) (r : TypeId × (e : Ty) × List e.D) (x : AV) : AV :=
 match x.names o with
 | false => x
 | true => (match x with
   | .own _ v => (match Nat.beq v ver with
     | true => .sl r.2.1 r.2.2
     | false => .dead)
   | .sub _ v [] lo n => (match Nat.beq v ver with
     | true => .sl r.2.1 ((r.2.2.drop lo).take n)
     | false => .dead)
   | _ => .dead)
def fzO (o ver : Nat) (r : TypeId × (e : Ty) × List e.D) : Nat → List Ob → Option (List Ob)
 | _, [] => some []
 | q, x :: l => (match fzO o ver r (q + 1) l with
   | some m => (match Nat.beq q o with
     | true => some (.gone :: m)
     | false => (match x.names o with
       | false => some (x :: m)
       | true => (match x with
         | .bx (.own _ v) => (match Nat.beq v ver with
           | true => some (.bx (.sl r.2.1 r.2.2) :: m)
           | false => none)
         | _ => none)))
   | none => none)
def fz (m0 : Nat) (st : St) (o ver : Nat) : Option St :=
 match Nat.ble m0 o, scOf st o ver with
 | true, some r => (match fzO o ver r 0 st.ob with
   | some ob => some ⟨st.tm.map (fz1 o ver r), ob⟩
   | none => none)
 | _, _ => none
theorem fzO_get {o ver : Nat} {r : TypeId × (e : Ty) × List e.D} : ∀ {l m : List Ob} {q : Nat}, fzO o ver r q l = some m → m.length = l.length ∧ ∀ (i : Nat) (y : Ob), m[i]? = some y →
   (q + i = o ∧ y = .gone) ∨ (q + i ≠ o ∧ ∃ x, l[i]? = some x ∧ ((x.names o = false ∧ y = x) ∨ (x = .bx (.own o ver) ∧ y = .bx (.sl r.2.1 r.2.2))))
 | [], m, q, h => by
   simp only [fzO] at h
   injection h with h; subst h
   exact ⟨rfl, fun i y hy => by simp at hy⟩
 | x :: l, m, q, h => by
   simp only [fzO] at h
   split at h <;> try (cases h; done)
   rename_i m' hm
   obtain ⟨g1, g2⟩ := fzO_get hm
   have rest : ∀ y0, m = y0 :: m' → (∀ y, y = y0 → (q = o ∧ y = .gone) ∨ (q ≠ o ∧ ((x.names o = false ∧ y = x) ∨ (x = .bx (.own o ver) ∧ y = .bx (.sl r.2.1 r.2.2))))) → m.length = (x :: l).length ∧ ∀ (i : Nat) (y : Ob), m[i]? = some y →
       (q + i = o ∧ y = .gone) ∨ (q + i ≠ o ∧ ∃ z, (x :: l)[i]? = some z ∧ ((z.names o = false ∧ y = z) ∨ (z = .bx (.own o ver) ∧ y = .bx (.sl r.2.1 r.2.2)))) := fun y0 e hy0 => by
     subst e
     refine ⟨by simp [g1], fun i y hy => ?_⟩
     cases i with
     | zero =>
       simp only [List.getElem?_cons_zero, Option.some.injEq] at hy
       rcases hy0 y hy.symm with ⟨h1, h2⟩ | ⟨h1, h2⟩
       · exact .inl ⟨by omega, h2⟩
       · exact .inr ⟨by omega, x, rfl, h2⟩
     | succ i =>
       simp only [List.getElem?_cons_succ] at hy
       rcases g2 i y hy with ⟨h1, h2⟩ | ⟨h1, z, h2, h3⟩
       · exact .inl ⟨by omega, h2⟩
       · exact .inr ⟨by omega, z, by simpa using h2, h3⟩
   split at h
   · rename_i hb
     injection h with h
     exact rest _ h.symm fun y hy => .inl ⟨Nat.eq_of_beq_eq_true hb, hy⟩
   · rename_i hb
     have hne : q ≠ o := fun e => by subst e; simp at hb
     split at h
     · rename_i hn
       injection h with h
       exact rest _ h.symm fun y hy => .inr ⟨hne, .inl ⟨hn, hy⟩⟩
     · rename_i hn
       split at h <;> try (cases h; done)
       rename_i q' v
       split at h <;> try (cases h; done)
       rename_i hv
       injection h with h
       have hv := Nat.eq_of_beq_eq_true hv
       simp only [Ob.names, AV.names] at hn
       have hn := Nat.eq_of_beq_eq_true hn
       subst hv; subst hn
       exact rest _ h.symm fun y hy => .inr ⟨hne, .inr ⟨rfl, hy⟩⟩
theorem Rel.fz (h : Rel G E F st a w) {o ver : Nat} {st' : St} (hf : Am.fz G.m0 st o ver = some st') : ∃ F', Rel G E F' st' a w := by
 unfold Am.fz at hf
 split at hf <;> try (cases hf; done)
 rename_i r hm hr
 split at hf <;> try (cases hf; done)
 rename_i ob hob
 injection hf with hf; subst hf
 have hm : G.m0 ≤ o := by simpa using hm
 obtain ⟨hso, hsi⟩ := scOf_spec hr
 have hlo : st.live o := by simp [St.live, hsi]
 obtain ⟨hlen, hget⟩ := fzO_get hob
 simp only [Nat.zero_add] at hget
 have hget' : ∀ (i : Nat), i ≠ o → ∀ x, st.ob[i]? = some x → ∃ y, ob[i]? = some y ∧ ((x.names o = false ∧ y = x) ∨ (x = .bx (.own o ver) ∧ y = .bx (.sl r.2.1 r.2.2))) := fun i hi x hx => by
   have hlt := (List.getElem?_eq_some_iff.mp hx).1
   have hy : ob[i]? = some ob[i] := by simp [hlen, hlt]
   rcases hget i _ hy with ⟨h1, _⟩ | ⟨_, z, h2, h3⟩
   · exact absurd h1 hi
   · rw [hx] at h2; injection h2 with h2; subst h2
     exact ⟨_, hy, h3⟩
 have hinf : ∀ q, (St.mk (st.tm.map (fz1 o ver r)) ob).inf q = if q = o then none else st.inf q := fun q => by
   simp only [St.inf]
   by_cases hq : q = o
   · subst hq
     rw [if_pos rfl]
     cases hy : ob[q]? with
     | none => rfl
     | some y =>
       rcases hget q y hy with ⟨_, rfl⟩ | ⟨hne, _⟩
       · rfl
       · exact absurd rfl hne
   · rw [if_neg hq]
     cases hx : st.ob[q]? with
     | none =>
       have : ob[q]? = none := by
         simp only [List.getElem?_eq_none_iff] at hx ⊢; omega
       rw [this]
     | some x =>
       obtain ⟨y, hy, hc⟩ := hget' q hq x hx
       rw [hy]
       rcases hc with ⟨_, rfl⟩ | ⟨rfl, rfl⟩
       · rfl
       · rfl
 have hlive : ∀ q, (St.mk (st.tm.map (fz1 o ver r)) ob).live q → q ≠ o ∧ st.live q := fun q hq => by
   simp only [St.live, hinf] at hq
   by_cases e : q = o
   · rw [if_pos e] at hq; cases hq
   · rw [if_neg e] at hq; exact ⟨e, hq⟩
 have hA : ∀ q v, q ≠ o → Ag E E st.inf (St.mk (st.tm.map (fz1 o ver r)) ob).inf q v := fun q v hq => by
   cases v with
   | none => rfl
   | some v => exact fun i hi _ => ⟨by rw [hinf, if_neg hq] at hi; exact hi, rfl, rfl⟩
 have hF : ∀ b, F b → (F b ∨ b = E.β o) := fun b hb => .inl hb
 refine ⟨fun b => F b ∨ b = E.β o, { defers := h.defers.mono (fun b hb => ⟨.inl hb, rfl⟩), size := by simp [h.size], tms := ?_, obs := ?_, apart := ?_, inj := fun q q' hq hq' => h.inj q q' (hlive q hq).2 (hlive q' hq').2, frz := ?_, new := ?_, own := fun q hq => h.own q (hlive q hq).2, os := h.os, tape := h.tape, output := h.output, grow := h.grow, frame := h.frame, glob := h.glob.mono fun b hb => ⟨.inl hb, rfl⟩, stay := ?_, live0 := ?_ }⟩
 · intro i y hy
   simp only [List.getElem?_map, Option.map_eq_some_iff] at hy
   obtain ⟨x, hx, rfl⟩ := hy
   have hT := h.tms i x hx
   unfold fz1
   split
   · rename_i hn
     exact hT.mono (fun b hb => ⟨.inl hb, rfl⟩) fun q v hq => hA q v fun e => by
       have := AV.names_of_has hq
       rw [e, hn] at this; cases this
   · rename_i hn
     split
     · rename_i q v
       split
       · rename_i hv
         have hv := Nat.eq_of_beq_eq_true hv
         simp only [AV.names] at hn
         have hn := Nat.eq_of_beq_eq_true hn
         subst hv; subst hn
         have hT := hT.notup rfl (by simp)
         exact TR.of_VR (own_view h hF hr (.inr rfl) hT.1) (by simpa [Shaped, AV.isAgg] using hT.2)
       · trivial
     · rename_i q v lo n
       split
       · rename_i hv
         have hv := Nat.eq_of_beq_eq_true hv
         simp only [AV.names] at hn
         have hn := Nat.eq_of_beq_eq_true hn
         subst hv; subst hn
         have hT := hT.notup rfl (by simp)
         have hvw : viewL st o v [] lo n = some ⟨r.2.1, (r.2.2.drop lo).take n⟩ := by simp [viewL, hr]
         exact TR.of_VR (sub_view h hF hvw (.inr rfl) hT.1) (by simpa [Shaped, AV.isAgg] using hT.2)
       · trivial
     · trivial
 · intro q y hy
   rcases hget q y hy with ⟨_, rfl⟩ | ⟨hq, x, hx, hc⟩
   · trivial
   · rcases hc with ⟨hn, rfl⟩ | ⟨rfl, rfl⟩
     · exact (h.obs q y hx).mono (fun b hb => ⟨.inl hb, rfl⟩) (fun q' v hv => hA q' v fun e => by
         have := Ob.names_of_has hv
         rw [e, hn] at this; cases this) fun _ => ⟨rfl, rfl, rfl⟩
     · obtain ⟨cs, T, h1, h2⟩ := h.obs q _ hx
       exact ⟨cs, T, h1, own_view h hF hr (.inr rfl) h2⟩
 · intro q hq
   obtain ⟨h1, h2⟩ := hlive q hq
   refine ⟨fun hb => ?_, (h.apart q h2).2⟩
   rcases hb with hb | hb
   · exact (h.apart q h2).1 hb
   · exact h1 (h.inj q o h2 hlo hb)
 · intro b hb
   rcases hb with hb | rfl
   · exact h.frz b hb
   · exact (h.apart o hlo).2
 · intro b hb
   rcases hb with hb | rfl
   · exact h.new b hb
   · rcases h.own o hlo with g | ⟨g, _⟩
     · exact .inr g
     · omega
 · intro q i hq hi hv
   rw [hinf, if_neg (by omega)] at hi
   exact h.stay q i hq hi hv
 · intro q hq
   simp only [St.live, hinf]
   rw [if_neg (by omega)]
   exact h.live0 q hq
/-- An own slice that an operation lays into data. -/
def ownIn (gl : Nat → Option ((t : Ty) × t.D)) (st : St) : List Operand → Option (Nat × Nat)
 | [] => none
 | x :: l => (match evalA gl st x with
   | some (.own o v) => some (o, v)
   | _ => ownIn gl st l)
def ownOp (gl : Nat → Option ((t : Ty) × t.D)) (st : St) (o : Oper) : Option (Nat × Nat) :=
 match o.op with
 | .mapUpdate _ _ _ v => ownIn gl st [v]
 | .build _ ps => ownIn gl st (ps.toList.map (·.2))
 | .buildSlice _ _ ps => ownIn gl st (ps.toList.map (·.2))
 | .box _ x => ownIn gl st [x]
 | .store _ _ v => ownIn gl st [v]
 | _ => none
end
end Go.Am

/- The abstract machine, part 22s: an own slice, kept in a cell, is cut at its end. -/
namespace Go.Am
open Go
def Ob.keeps (q ver : Nat) : Ob → Bool
 | .bx (.own q' ver') => Nat.beq q q' && Nat.beq ver ver'
 | _ => false
/-- `x = x[:h]` of a slice that a cell keeps. -/
def effSk (X : Cx) (gl : Nat → Option ((t : Ty) × t.D)) (st : St) (o : Oper) : Option (Nat × Ob × AV × Prop) :=
 match o.op with
 | .slice T x none hi none => (match evalA gl st x, optI gl st hi with
   | some (.own q ver), some (some h) => (match st.ob.any (Ob.keeps q ver), scOf st q ver, elemOf X T, st.noVer q (ver + 1) with
     | true, some r, some (none, eti), true => (match Nat.beq eti.size r.2.1.sz with
       | true => some (q, .sc (ver + 1) r.1 r.2.1 (r.2.2.take h.2.toNat), .own q (ver + 1), 0 ≤ h.2 ∧ h.2 ≤ r.2.2.length)
       | false => none)
     | _, _, _, _ => none)
   | _, _ => none)
 | _ => none
section
variable {X : Cx} {G : En} {E : Env} {F : Nat → Prop} {st : St} {a : Act} {w : World}
theorem run_effSk (hX : X.Ok) (h : Rel G E F st a w) {o : Oper} {q : Nat} {ob : Ob} {v : AV} {p : Prop} (he : effSk X G.gl st o = some (q, ob, v, p)) (hp : p) :
   ∃ r E', (execOp a.eval o).run X.P w = .ok (.value r) w ∧ Rel G E' F (st.setO q ob) a w ∧ TR E' (st.setO q ob).inf F w v r := by
 unfold effSk at he
 split at he <;> try (cases he; done)
 rename_i T x hi ho
 split at he <;> try (cases he; done)
 rename_i q' ver hh hx hhi
 split at he <;> try (cases he; done)
 rename_i r eti _ hsc heo hnv
 split at he <;> try (cases he; done)
 rename_i hb
 injection he with he; injection he with h1 he; injection he with h2 he; injection he with h3 h4
 subst h1 h2 h3 h4
 have hb := Nat.eq_of_beq_eq_true hb
 obtain ⟨te, hu, ok⟩ := elemOf_spec hX heo
 obtain ⟨hob, hI⟩ := scOf_spec hsc
 have hx' := one_own (h.eval hx) hI
 obtain ⟨cs, g1, g2, g3, g4, g5, g6⟩ := h.obs _ _ hob
 have hlen : (r.2.2.take hh.2.toNat).length = hh.2.toNat := by rw [List.length_take]; omega
 have hsl := run_sliceAt_sl (w := w) (lo := none) (hi := some hh) (mx := none) hu ok (some ⟨E.β q', 0, none⟩) (n := r.2.2.length) (c := E.cap q') (by simp only [slPre, Option.map]; omega)
 have hlq : st.live q' := by simp [St.live, hI]
 obtain ⟨pre, mid, post, f1, f2, f3⟩ := g6.take_drop 0 hh.2.toNat (by omega)
 have hpre : pre = [] := List.eq_nil_of_length_eq_zero (by omega)
 have hor : OR (E.set q' (E.β q') (E.cap q')) (st.setO q' (.sc (ver + 1) r.1 r.2.1 (r.2.2.take hh.2.toNat))).inf F w q' (.sc (ver + 1) r.1 r.2.1 (r.2.2.take hh.2.toNat)) := by
   refine ⟨cs, by simp only [Env.set, if_true]; exact g1, by simp only [Env.set, if_true]; omega, by simpa [Env.set] using g3, by simpa [Env.set] using g4, by omega, ?_⟩
   have hm : cs.toList.take ((r.2.2.take hh.2.toNat).length * r.2.1.sz) = mid := by
     have hml := f3.len
     simp only [Ty.sz, Ty.sh, Sh.sz] at hml
     subst hpre
     simp only [List.nil_append] at f1
     have e1 : cs.toList.take (hh.2.toNat * r.2.1.sz) = (cs.toList.take (r.2.2.length * r.2.1.sz)).take (hh.2.toNat * r.2.1.sz) := by
       rw [List.take_take, Nat.min_eq_left (Nat.mul_le_mul_right _ (by omega))]
     rw [hlen, e1, f1]
     exact List.take_left' hml
   rw [hm, hlen]
   simpa using f3
 refine ⟨.slice (some ⟨E.β q', 0, none⟩) hh.2.toNat (E.cap q'), E.set q' (E.β q') (E.cap q'), ?_, ?_, ?_⟩
 · have e1 : (Instr.sliceAt T (a.eval x) none (intV (some hh)) none).run X.P w = .ok (.slice (some ⟨E.β q', 0, none⟩) hh.2.toNat (E.cap q')) w := by
     rw [hx']
     refine hsl.trans ?_
     simp [bLo, bHi, Addr.add]
   simp only [execOp, ho, h.optI hhi, Sem.run_bind, Option.map_none, e1, Result.andThen_ok, Sem.run_pure]
 · exact h.moveOb (ver := ver + 1) hob rfl (fun i hi => by simp [Ob.inf] at hi; rw [← hi]) rfl hnv (Nat.succ_ne_zero _) (World.grownBy.refl _ _) (.inl rfl) (h.apart q' hlq).2 hor
 · have := TR.own (E := E.set q' (E.β q') (E.cap q')) (F := F) (w := w) (o := q') (ver := ver + 1) (n := (r.2.2.take hh.2.toNat).length) (e := r.2.1.sh) (I := (st.setO q' (.sc (ver + 1) r.1 r.2.1 (r.2.2.take hh.2.toNat))).inf) (by rw [St.inf_setO, if_pos rfl]; rfl)
   rw [hlen] at this
   simpa [Env.set] using this
end
end Go.Am

/- The abstract machine, part 23: one operation. -/
namespace Go.Am
open Go
def setT : List AV → Nat → AV → Option (List AV)
 | [], _, _ => none
 | _ :: l, 0, v => some (v :: l)
 | a :: l, i + 1, v => (match setT l i v with
   | some m => some (a :: m)
   | none => none)
theorem setT_spec : ∀ {l m : List AV} {i : Nat} {v : AV}, setT l i v = some m → i < l.length ∧ m = l.set i v
 | [], m, i, v, h => by simp [setT] at h
 | a :: l, m, 0, v, h => by simp only [setT] at h; injection h with h; subst h; simp
 | a :: l, m, i + 1, v, h => by
   simp only [setT] at h
   split at h <;> try (cases h; done)
   rename_i m' hm
   injection h with h; subst h
   obtain ⟨h1, h2⟩ := setT_spec hm
   simp [h1, h2]
def St.putB (st : St) (d : Option Tmp) (v : AV) : Option St :=
 match d with
 | none => some st
 | some d => (match setT st.tm d v with
   | some tm => some ⟨tm, st.ob⟩
   | none => none)
theorem St.putB_spec {st st' : St} {d : Option Tmp} {v : AV} (h : st.putB d v = some st') : st' = st.put d v ∧ ∀ i, d = some i → i < st.tm.length := by
 unfold St.putB at h
 split at h
 · injection h with h; subst h; exact ⟨rfl, fun i hi => by cases hi⟩
 · split at h <;> try (cases h; done)
   rename_i tm ht
   injection h with h; subst h
   obtain ⟨h1, h2⟩ := setT_spec ht
   exact ⟨by simp [St.put, h2], fun i hi => by injection hi with hi; subst hi; exact h1⟩
def withP (x : Option St) (p : Prop) : Option (St × Prop) := match x with
 | some s => some (s, p)
 | none => none
theorem withP_spec {x : Option St} {p q : Prop} {s : St} (h : withP x p = some (s, q)) : x = some s ∧ p = q := by
 cases x with
 | none => cases h
 | some x => injection h with h; injection h with h1 h2; exact ⟨congrArg some h1, h2⟩
/-- One operation: the state behind it, and what it asks. -/
def effR (X : Cy) (st : St) (o : Oper) : Option (St × Prop) :=
 let pure := match effQ X.toCx X.gl st o with
   | some (v, p) => withP (st.putB o.dst v) p
   | none => none
 let new := match st.fresh st.ob.length, effK X.toCx X.gl st st.ob.length o with
   | true, some (ob, v, p) => withP ((st.setO st.ob.length ob).putB o.dst v) p
   | _, _ => none
 match o.op with
 | .store _ _ _ => (match effS X.toCx X.gl st o with
   | some (q, ob, p) => withP ((st.setO q ob).putB o.dst .dead) p
   | none => none)
 | .alloc _ => new
 | .box _ _ => new
 | .buildSlice _ _ _ => new
 | .makeSlice _ _ _ => new
 | .makeMap _ _ => new
 | .mapUpdate _ _ _ _ => (match effM X.toCx X.gl st o with
   | some (q, ob) => withP ((st.setO q ob).putB o.dst .dead) True
   | none => none)
 | .insert _ _ _ _ => (match effM X.toCx X.gl st o with
   | some (q, ob) => withP ((st.setO q ob).putB o.dst .dead) True
   | none => none)
 | .call c => (match c.callee with
   | .builtin .append => (match st.fresh st.ob.length, effA X.toCx X.gl st st.ob.length o with
     | true, some (e, p) => withP ((e.st st st.ob.length).putB o.dst e.val) p
     | _, _ => none)
   | .builtin .copy => (match effC X.toCx X.gl st o with
     | some (q, ob, v) => withP ((st.setO q ob).putB o.dst v) True
     | none => none)
   | .builtin .clear => (match effCl X.toCx X.gl st o with
     | some (q, ob) => withP ((st.setO q ob).putB o.dst (.tup [])) True
     | none => none)
   | .value _ => (match callA X st o with
     | some (st', v, p) => withP (st'.putB o.dst v) p
     | none => none)
   | _ => pure)
 | .slice _ _ _ _ _ => (match effSk X.toCx X.gl st o with
   | some (q, ob, v, p) => withP ((st.setO q ob).putB o.dst v) p
   | none => pure)
 | _ => pure
section
variable {X : Cy} {G : En} {E : Env} {F : Nat → Prop} {st : St} {a : Act} {w : World}
theorem Rel.putB (h : Rel G E F st a w) {d : Option Tmp} {x : AV} {v : Value} {st' : St} (hp : st.putB d x = some st') (hx : TR E st.inf F w x v) : Rel G E F st' (a.put d v) w := by
 obtain ⟨h1, h2⟩ := St.putB_spec hp
 subst h1
 exact h.put h2 fun _ => hx
theorem run_effR {r : Option Nat} (hX : X.Ok) (hG : G.gl = X.gl) (hm : G.m0 = X.m0) (h : Rel G E F st a w) {o : Oper} {st' : St} {p : Prop} (he : effR X st o = some (st', p)) (hp : p)
   {next : Act → World → Prop} {Q : Exit → Act → World → Prop} (hnext : ∀ E' F' a' w', Rel G E' F' st' a' w' → next a' w') : o.wpIn (Fw r) 0 X.P a w next Q := by
 have hXc := hX.toOk
 have kpure : (match effQ X.toCx X.gl st o with
     | some (v, p) => withP (st.putB o.dst v) p
     | none => none) = some (st', p) → o.wpIn (Fw r) 0 X.P a w next Q := by
   intro he
   split at he <;> try (cases he; done)
   rename_i v q hv
   obtain ⟨h1, h2⟩ := withP_spec he
   subst h2
   rw [← hG] at hv
   obtain ⟨rr, g1, g2⟩ := run_effQ hXc h hv hp
   refine wpIn_of_run g1 (fun d h => nomatch h) ?_
   exact hnext _ _ _ _ (h.putB h1 g2)
 have knew : (match st.fresh st.ob.length, effK X.toCx X.gl st st.ob.length o with
     | true, some (ob, v, p) => withP ((st.setO st.ob.length ob).putB o.dst v) p
     | _, _ => none) = some (st', p) → o.wpIn (Fw r) 0 X.P a w next Q := by
   intro he
   split at he <;> try (cases he; done)
   rename_i ob v q hf hv
   obtain ⟨h1, h2⟩ := withP_spec he
   subst h2
   rw [← hG] at hv
   obtain ⟨rr, obj, cap, g1, g2, g3⟩ := run_effK hXc h hf hv hp
   refine wpIn_of_run g1 (fun d h => nomatch h) ?_
   exact hnext _ _ _ _ ((h.newOb hf ob obj cap g2).putB h1 g3)
 unfold effR at he
 simp only at he
 split at he
 · split at he <;> try (cases he; done)
   rename_i q ob rr hs
   obtain ⟨h1, h2⟩ := withP_spec he
   rw [← hG] at hs
   obtain ⟨w', g1, g2⟩ := run_effS hXc h hs
   refine wpIn_of_run g1 (fun d h => nomatch h) ?_
   exact hnext _ _ _ _ (g2.putB (v := undef) h1 trivial)
 · exact knew he
 · exact knew he
 · exact knew he
 · exact knew he
 · exact knew he
 · split at he <;> try (cases he; done)
   rename_i q ob hs
   obtain ⟨h1, h2⟩ := withP_spec he
   rw [← hG] at hs
   obtain ⟨w', g1, g2⟩ := run_effM hXc h hs
   refine wpIn_of_run g1 (fun d h => nomatch h) ?_
   exact hnext _ _ _ _ (g2.putB (v := undef) h1 trivial)
 · split at he <;> try (cases he; done)
   rename_i q ob hs
   obtain ⟨h1, h2⟩ := withP_spec he
   rw [← hG] at hs
   obtain ⟨w', g1, g2⟩ := run_effM hXc h hs
   refine wpIn_of_run g1 (fun d h => nomatch h) ?_
   exact hnext _ _ _ _ (g2.putB (v := undef) h1 trivial)
 · split at he
   · split at he <;> try (cases he; done)
     rename_i e q hf hv
     obtain ⟨h1, h2⟩ := withP_spec he
     subst h2
     rw [← hG] at hv
     obtain ⟨rr, w', E', F', g1, g2, g3⟩ := run_effA hXc h hf hv hp
     refine wpIn_of_run g1 (fun d h => nomatch h) ?_
     exact hnext _ _ _ _ (g2.putB h1 g3)
   · split at he <;> try (cases he; done)
     rename_i q ob v hv
     obtain ⟨h1, h2⟩ := withP_spec he
     rw [← hG] at hv
     obtain ⟨rr, w', g1, g2, g3⟩ := run_effC hXc h hv
     refine wpIn_of_run g1 (fun d h => nomatch h) ?_
     exact hnext _ _ _ _ (g2.putB h1 g3)
   · split at he <;> try (cases he; done)
     rename_i q ob hv
     obtain ⟨h1, h2⟩ := withP_spec he
     rw [← hG] at hv
     obtain ⟨w', g1, g2⟩ := run_effCl hXc h hv
     refine wpIn_of_run g1 (fun d h => nomatch h) ?_
     exact hnext _ _ _ _ (g2.putB (v := .tuple #[]) h1 (by simp only [TR]; exact ⟨[], rfl, by simp only [VRs]⟩))
   · split at he <;> try (cases he; done)
     rename_i st1 v q hv
     obtain ⟨h1, h2⟩ := withP_spec he
     subst h2
     exact run_callA hX hG hm h hv hp fun E' F' w' u g2 g3 => hnext _ _ _ _ (g2.putB h1 g3)
   · exact kpure he
 · split at he
   · rename_i q ob v p1 hs
     obtain ⟨h1, h2⟩ := withP_spec he
     subst h2
     rw [← hG] at hs
     obtain ⟨rr, E', g1, g2, g3⟩ := run_effSk hXc h hs hp
     refine wpIn_of_run g1 (fun d h => nomatch h) ?_
     exact hnext _ _ _ _ (g2.putB h1 g3)
   · exact kpure he
 · exact kpure he
/-- An own slice that would be lost by a call, as its results may lead to it. -/
def losesO (X : Cy) (st : St) (o : Oper) : Option (Nat × Nat) :=
 match o.op with
 | .call c => (match c.callee with
   | .value g => (match evalA X.gl st g, evalL X.gl st c.args.toList with
     | some (.clo f l m), some xs => (match X.lend f, trL st [] (l ++ (xs ++ m)) with
       | false, some ys => (match X.Γat o.dst f ys [] with
         | some r => (match r.2.1 with
           | false => ownIn X.gl st c.args.toList
           | true => none)
         | none => none)
       | _, _ => none)
     | _, _ => none)
   | _ => none)
 | _ => none
/-- ... own slices that it lays into data are given away ahead of it. -/
def effZ (X : Cy) : Nat → St → Oper → Option (St × Prop)
 | 0, st, o => effR X st o
 | n + 1, st, o => (match losesO X st o with
   | some q => (match fz X.m0 st q.1 q.2 with
     | some st1 => effZ X n st1 o
     | none => effR X st o)
   | none => (match effR X st o with
     | some r => some r
     | none => (match ownOp X.gl st o with
       | some q => (match fz X.m0 st q.1 q.2 with
         | some st1 => effZ X n st1 o
         | none => none)
       | none => none)))
def effO (X : Cy) (st : St) (o : Oper) : Option (St × Prop) := effZ X 3 st o
theorem run_effZ {r : Option Nat} (hX : X.Ok) (hG : G.gl = X.gl) (hm : G.m0 = X.m0) {o : Oper} {st' : St} {p : Prop} (hp : p)
   {next : Act → World → Prop} {Q : Exit → Act → World → Prop} (hnext : ∀ E' F' a' w', Rel G E' F' st' a' w' → next a' w') : ∀ (n : Nat) (st : St) (F : Nat → Prop), Rel G E F st a w → effZ X n st o = some (st', p) → o.wpIn (Fw r) 0 X.P a w next Q
 | 0, st, F, h, he => run_effR hX hG hm h he hp hnext
 | n + 1, st, F, h, he => by
   unfold effZ at he
   split at he
   · split at he
     · rename_i st1 hf
       rw [← hm] at hf
       obtain ⟨F', h'⟩ := h.fz hf
       exact run_effZ hX hG hm hp hnext n st1 F' h' he
     · exact run_effR hX hG hm h he hp hnext
   split at he
   · rename_i rr hr
     injection he with he; subst he
     exact run_effR hX hG hm h hr hp hnext
   · split at he <;> try (cases he; done)
     split at he <;> try (cases he; done)
     rename_i st1 hf
     rw [← hm] at hf
     obtain ⟨F', h'⟩ := h.fz hf
     exact run_effZ hX hG hm hp hnext n st1 F' h' he
theorem run_effO {r : Option Nat} (hX : X.Ok) (hG : G.gl = X.gl) (hm : G.m0 = X.m0) (h : Rel G E F st a w) {o : Oper} {st' : St} {p : Prop} (he : effO X st o = some (st', p)) (hp : p)
   {next : Act → World → Prop} {Q : Exit → Act → World → Prop} (hnext : ∀ E' F' a' w', Rel G E' F' st' a' w' → next a' w') : o.wpIn (Fw r) 0 X.P a w next Q :=
 run_effZ hX hG hm hp hnext 3 st F h he
end
end Go.Am

/- The abstract machine, part 23d: regions whose order is open; the pure part. -/
namespace Go.Am
open Go
/-- Is an operation wanted? -/
def guardOf (all : Array Oper) (o : Oper) (st : St) : Option Bool :=
 match o.guard with
 | none => some true
 | some (j, want) => (match all[j]? with
   | some g => (match g.dst with
     | some t => (match st.tm[t]? with
       | some .tt => some want
       | some .ff => some (!want)
       | some (.tup []) => some false
       | _ => none)
     | none => some false)
   | none => some false)
def noTD : List AV → Bool
 | [] => true
 | .tup _ :: _ => false
 | .dead :: _ => false
 | _ :: l => noTD l
/-- A pure call: nothing is lent, and what comes back names nothing. -/
def callH (X : Cy) (st : St) (c : Call) : Option (AV × Prop) :=
 match c.callee with
 | .value g => (match evalA X.gl st g, evalL X.gl st c.args.toList with
   | some (.clo f l m), some xs => (match noTup xs, trL st [] (l ++ (xs ++ m)) with
     | true, some ys => (match X.Γ f ys [] with
       | some r => (match r.2.1 || AV.underL 0 (l ++ (xs ++ m)), AV.underL 0 r.2.2.1 && noTD r.2.2.1, r.2.2.2 with
         | true, true, [] => some (resA r.2.2.1, r.1)
         | _, _, _ => none)
       | none => none)
     | _, _ => none)
   | _, _ => none)
 | _ => none
/-- A slice that is made and only looked at (hint: its temporary + 2000000). -/
def lookB (X : Cy) (o : Oper) : Bool :=
 match o.op, o.dst with
 | .buildSlice _ _ _, some d => X.hs (d + 2000000)
 | _, _ => false
def bldV (X : Cy) (st : St) (o : Oper) : Option (AV × Prop) :=
 match st.fresh st.ob.length, effN X.toCx X.gl st st.ob.length o with
 | true, some (.sc 0 _ e xs, .own q 0, p) => (match Nat.beq q st.ob.length with
   | true => some (.sl e xs, p)
   | false => none)
 | _, _ => none
def effH (X : Cy) (st : St) (o : Oper) : Option (AV × Prop) :=
 match lookB X o with
 | true => bldV X st o
 | false => (match o.op with
   | .call c => (match c.callee with
     | .value _ => callH X st c
     | _ => effQ X.toCx X.gl st o)
   | _ => effQ X.toCx X.gl st o)
section
variable {X : Cy} {G : En} {E : Env} {F : Nat → Prop} {st σ : St} {a : Act} {w : World}
theorem noTD_get : ∀ {l : List AV} {i : Nat} {x : AV}, noTD l = true → l[i]? = some x → isTup x = false ∧ x ≠ .dead
 | [], i, x, _, h => by simp at h
 | a :: l, 0, x, h, hx => by simp at hx; subst hx; cases a <;> simp_all [noTD, isTup]
 | a :: l, i + 1, x, h, hx => by
   refine noTD_get (l := l) ?_ (by simpa using hx)
   cases a <;> simp_all [noTD]
theorem VRs.of_get {I : Nat → Option Inf} : ∀ {l : List AV} {vs : List Value}, vs.length = l.length → noTD l = true → (∀ (i : Nat) (x : AV), l[i]? = some x → TR E I F w x (vs.getD i undef)) → VRs E I F w l vs
 | [], vs, h, _, _ => by simp only [VRs]; exact List.eq_nil_of_length_eq_zero (by simpa using h)
 | x :: l, [], h, _, _ => by simp at h
 | x :: l, v :: vs, h, hn, hT => by
   simp only [VRs]
   have h0 := noTD_get hn (i := 0) rfl
   have hx := (hT 0 x rfl).notup h0.1 h0.2
   refine ⟨v, vs, rfl, hx.1, hx.2, VRs.of_get (by simpa using h) ?_ fun i y hy => by simpa using hT (i + 1) y (by simpa using hy)⟩
   cases x <;> simp_all [noTD]
theorem TR.bool_val {I : Nat → Option Inf} {u : Value} {x : AV} {b : Bool} (hx : toB x = some b) (h : TR E I F w x u) : u = .bool b := by
 have hn := toB_nag hx
 have h' : CR E I F w x u.cells.toList ∧ Shaped x u := by
   cases x <;> first | (simp [toB] at hx; done) | exact h
 have h1 := toB_CR hx h'.1
 have h2 := h'.2
 unfold Shaped at h2
 rw [if_neg (by simp [hn.1])] at h2
 rw [h2] at h1
 simpa using h1
theorem guardOf_wanted (h : Rel G E F st a w) {all : Array Oper} {o : Oper} {b : Bool} (hg : guardOf all o st = some b) : Region.wanted o (yielded all a.tmps) = b := by
 have key : ∀ (t : Nat) (x : AV), st.tm[t]? = some x → ∃ u, a.tmps[t]? = some u ∧ TR E st.inf F w x u := fun t x hx => by
   have hlt : t < a.tmps.size := by rw [h.size]; exact (List.getElem?_eq_some_iff.mp hx).1
   refine ⟨_, Array.getElem?_eq_getElem hlt, ?_⟩
   have := h.tms t x hx
   simpa [Array.getD_eq_getD_getElem?, hlt] using this
 unfold guardOf at hg
 unfold Region.wanted
 split at hg
 · rename_i hn
   injection hg with hg; subst hg
   simp [hn]
 · rename_i j want hn
   simp only [hn]
   split at hg
   · rename_i g hj
     split at hg
     · rename_i t ht
       split at hg <;> try (cases hg; done)
       · rename_i hx
         injection hg with hg; subst hg
         obtain ⟨u, hu, hT⟩ := key _ _ hx
         have := TR.bool_val (x := .tt) (b := true) rfl hT
         subst this
         simp only [yielded, hj, Option.bind_some, ht, hu]
         cases want <;> rfl
       · rename_i hx
         injection hg with hg; subst hg
         obtain ⟨u, hu, hT⟩ := key _ _ hx
         have := TR.bool_val (x := .ff) (b := false) rfl hT
         subst this
         simp only [yielded, hj, Option.bind_some, ht, hu]
         cases want <;> rfl
       · rename_i hx
         injection hg with hg; subst hg
         obtain ⟨u, hu, hT⟩ := key _ _ hx
         simp only [TR] at hT
         obtain ⟨vs, rfl, _⟩ := hT
         simp only [yielded, hj, Option.bind_some, ht, hu]
         cases want <;> rfl
     · rename_i ht
       injection hg with hg; subst hg
       simp only [yielded, hj, Option.bind_some, ht]
       cases want <;> rfl
   · rename_i hj
     injection hg with hg; subst hg
     simp only [yielded, hj]
     cases want <;> rfl
theorem under0_has {o : Nat} {v : Option Nat} {x : AV} (h : x.under 0 = true) : x.has o v = false := by
 cases hh : x.has o v with
 | false => rfl
 | true => exact absurd (AV.under_names h (AV.names_of_has hh)) (Nat.not_lt_zero _)
theorem run_callH {ro : Option Nat} (hX : X.Ok) (hG : G.gl = X.gl) (h : Rel G E F st a w) (hs : Rel G E F σ a w) {o : Oper} {c : Call} (ho : o.op = .call c) {v : AV} {p : Prop} (he : callH X σ c = some (v, p)) (hp : p)
   {next : Act → World → Prop} {Q : Exit → Act → World → Prop} (hnext : ∀ E' F' w' u, Rel G E' F' st a w' → TR E' st.inf F' w' v u → next (a.put o.dst u) w') : o.wpIn (Fw ro) 0 X.P a w next Q := by
 unfold callH at he
 split at he <;> try (cases he; done)
 rename_i g hc
 split at he <;> try (cases he; done)
 rename_i f l m xs hg hxs
 split at he <;> try (cases he; done)
 rename_i ys ht hys
 split at he <;> try (cases he; done)
 rename_i r hr
 split at he <;> try (cases he; done)
 rename_i hsep hnm hob
 simp only [Bool.and_eq_true] at hnm
 obtain ⟨hnm, hntd⟩ := hnm
 injection he with he; injection he with h1 h2; subst h1 h2
 rw [← hG] at hg hxs
 have hf := one_cell (hs.eval hg) rfl
 simp only [CR] at hf
 obtain ⟨vs, us, e1, e2, e3⟩ := hf
 injection e1 with e1 _
 have hargs := hs.evalL hxs ht
 have hall := e2.append (hargs.append e3)
 obtain ⟨k1, k2⟩ := hX.Γ f ys [] r.1 r.2.1 r.2.2.1 r.2.2.2 hr hp
 rw [hob] at k2
 have hen := hs.enter (ι := []) rfl hall hys rfl
 rw [hG] at hen
 have hgl : GlobOk X.gl F w := by have := h.glob; rwa [hG] at this
 have hrun : (execOp a.eval o).run X.P w = .ok (.enter f ((vs ++ ((c.args.toList.map a.eval) ++ us)).toArray)) w := by
   have : (vs.toArray ++ c.args.map a.eval ++ us.toArray) = (vs ++ ((c.args.toList.map a.eval) ++ us)).toArray := by
     apply Array.ext'
     simp
   simp only [execOp, ho, resolve, hc, e1, Deferred.ofValue, Sem.run_bind, Sem.run_pure, Result.andThen_ok, invoke]
   rw [this]
   exact run_callFunc_enters k1
 refine wpIn_of_run hrun (fun d h => nomatch h) ?_
 rw [Oper.uponIn_enter]
 refine ⟨fun h => (nomatch h), callsIn_Fw.mpr ?_⟩
 have hF0 : ∃ F0 : Nat → Prop, (∀ b, F0 b → FV E F σ [] (l ++ (xs ++ m) ++ obAVs σ []) b) ∧ (r.2.1 = false → F0 = FV E F σ [] (l ++ (xs ++ m) ++ obAVs σ [])) ∧ (∀ b, F0 b → F b) ∧ GlobOk X.gl F0 w := by
   cases hs1 : r.2.1 with
   | true => exact ⟨F, fun b hb => .inl hb, (fun e => nomatch e), fun b hb => hb, hgl⟩
   | false =>
     rw [hs1, Bool.false_or] at hsep
     refine ⟨_, fun b hb => hb, fun _ => rfl, fun b hb => ?_, hgl.mono fun b hb => ⟨.inl hb, rfl⟩⟩
     rcases hb with hb | ⟨o', _, _, hn, _⟩
     · exact hb
     · simp only [obAVs, List.append_nil] at hn
       have := AV.under_namesL hsep hn
       omega
 obtain ⟨F0, q1, q2, q3, q4⟩ := hF0
 refine (k2 _ _ F0 w _ q1 q2 q4 hen).mono ?_
 rintro e w' ⟨E', F', a', rfl, R⟩
 have hgb : w.grownBy w' none := ⟨R.os, R.tape, R.output, R.grow, fun k hk _ => R.frame k hk fun o ho => absurd ho (Nat.not_lt_zero _)⟩
 have h' := h.grown hgb (fun b => F' b ∧ w.heap.size ≤ b) (fun b hb => ⟨hb.2, R.frz b hb.1⟩)
 have hFF : ∀ b, F' b → (F b ∨ (F' b ∧ w.heap.size ≤ b)) ∧ w'.heap[b]? = w'.heap[b]? := fun b hb => ⟨by
   rcases R.new b hb with g | g
   · exact .inl (q3 b g)
   · exact .inr ⟨hb, g⟩, rfl⟩
 refine hnext _ _ w' (retVal a'.tmps) h' ?_
 have hlen := R.size
 have hvr : ∀ (i : Nat) (x : AV), r.2.2.1[i]? = some x → TR E st.inf (fun b => F b ∨ (F' b ∧ w.heap.size ≤ b)) w' x (a'.tmps.getD i undef) := fun i x hx => by
   have hu := AV.underL_get hnm hx
   exact (R.tms i x hx).mono hFF fun o v ho => by rw [under0_has hu] at ho; cases ho
 generalize hrs : r.2.2.1 = rs at *
 unfold resA
 split
 · rename_i x
   have hsz : a'.tmps.size = 1 := by simpa using hlen
   have := hvr 0 x rfl
   unfold retVal
   rw [dif_pos hsz]
   simpa [Array.getD_eq_getD_getElem?, hsz] using this
 · rename_i hne
   have hsz : ¬ a'.tmps.size = 1 := fun e => by
     have : rs.length = 1 := by rw [← e]; exact hlen.symm
     obtain ⟨x, hx⟩ := List.length_eq_one_iff.mp this
     exact hne x hx
   unfold retVal
   rw [dif_neg hsz]
   simp only [TR]
   refine ⟨a'.tmps.toList, by simp, ?_⟩
   refine VRs.of_get (by simpa using hlen) hntd fun i x hx => ?_
   simpa [Array.getD_eq_getD_getElem?, List.getD_eq_getElem?_getD] using hvr i x hx
theorem run_bldV {ro : Option Nat} (hX : X.Ok) (hG : G.gl = X.gl) (h : Rel G E F st a w) (hs : Rel G E F σ a w) {o : Oper} {v : AV} {p : Prop} (he : bldV X σ o = some (v, p)) (hp : p)
   {next : Act → World → Prop} {Q : Exit → Act → World → Prop} (hnext : ∀ E' F' w' u, Rel G E' F' st a w' → TR E' st.inf F' w' v u → next (a.put o.dst u) w') : o.wpIn (Fw ro) 0 X.P a w next Q := by
 unfold bldV at he
 split at he <;> try (cases he; done)
 rename_i te e xs q p1 hf hv
 split at he <;> try (cases he; done)
 rename_i hq
 have hq := Nat.eq_of_beq_eq_true hq
 subst hq
 injection he with he; injection he with h1 h2; subst h1 h2
 rw [← hG] at hv
 obtain ⟨r, obj, cap, g1, g2, g3⟩ := run_effN hX.toOk hs hf hv hp
 have hs' := hs.newOb hf _ obj cap g2
 have hget : (σ.setO σ.ob.length (.sc 0 te e xs)).ob[σ.ob.length]? = some (.sc 0 te e xs) := by show (setOb σ.ob σ.ob.length _)[σ.ob.length]? = _; rw [setOb_get, if_pos rfl]
 have hr : scOf (σ.setO σ.ob.length (.sc 0 te e xs)) σ.ob.length 0 = some ⟨te, e, xs⟩ := by
   unfold scOf
   rw [hget]
   try rfl
 have h' := h.grown (World.grownBy_alloc w obj none) (fun b => b = w.heap.size) (fun b hb => by subst hb; simp)
 refine wpIn_of_run g1 (fun d h => nomatch h) ?_
 refine hnext E _ (w.alloc obj) r h' ?_
 have g3 := g3.notup rfl (by simp)
 exact TR.of_VR (own_view hs' (Fc := fun b => F b ∨ b = w.heap.size) (fun b hb => .inl hb) hr (.inr (by simp [Env.set])) g3.1) (by simpa [Shaped, AV.isAgg] using g3.2)
end
end Go.Am

/- The abstract machine, part 23e: regions whose order is open. -/
namespace Go.Am
open Go
def edgesOf (o : Oper) : List Nat := (o.after.toList.filter (fun e => Region.binds .any e)).map (·.on)
inductive Anc (all : Array Oper) : Nat → Nat → Prop
 | edge {j k o} : all[j]? = some o → k ∈ edgesOf o → Anc all j k
 | more {j k i o} : all[j]? = some o → k ∈ edgesOf o → Anc all k i → Anc all j i
def maskE (ms : List Nat) : List Nat → Nat
 | [] => 0
 | k :: l => (2 ^ k ||| ms.getD k 0) ||| maskE ms l
def masksOf : List Oper → List Nat → List Nat
 | [], ms => ms
 | o :: l, ms => masksOf l (ms ++ [maskE ms (edgesOf o)])
theorem maskE_bit {all : Array Oper} {ms : List Nat} (hms : ∀ j i, (ms.getD j 0).testBit i = true → Anc all j i) {j i : Nat} {o : Oper} (ho : all[j]? = some o) : ∀ {l : List Nat}, (∀ k ∈ l, k ∈ edgesOf o) → (maskE ms l).testBit i = true → Anc all j i
 | [], _, h => by simp [maskE] at h
 | k :: l, hl, h => by
   simp only [maskE, Nat.testBit_or, Bool.or_eq_true] at h
   rcases h with (h | h) | h
   · rw [Nat.testBit_two_pow] at h
     have : k = i := by simpa using h
     subst this
     exact .edge ho (hl k (by simp))
   · exact .more ho (hl k (by simp)) (hms k i h)
   · exact maskE_bit hms ho (fun k hk => hl k (by simp [hk])) h
theorem masksOf_bit {all : Array Oper} : ∀ {l : List Oper} {ms : List Nat}, (∀ j i, (ms.getD j 0).testBit i = true → Anc all j i) → all.toList.drop ms.length = l → ∀ j i, ((masksOf l ms).getD j 0).testBit i = true → Anc all j i
 | [], ms, hms, _, j, i, h => hms j i h
 | o :: l, ms, hms, hd, j, i, h => by
   have hi : all[ms.length]? = some o := by
     rw [← Array.getElem?_toList, show all.toList[ms.length]? = (all.toList.drop ms.length)[0]? by simp, hd]; rfl
   refine masksOf_bit (l := l) (ms := ms ++ [maskE ms (edgesOf o)]) ?_ ?_ j i h
   · intro j i hb
     simp only [List.getD_eq_getElem?_getD] at hb
     by_cases hj : j < ms.length
     · rw [List.getElem?_append_left hj] at hb
       exact hms j i (by simpa [List.getD_eq_getElem?_getD] using hb)
     · rw [List.getElem?_append_right (by omega)] at hb
       by_cases hj' : j = ms.length
       · subst hj'
         simp at hb
         exact maskE_bit hms hi (fun k hk => hk) hb
       · rw [List.getElem?_eq_none (by simp; omega)] at hb
         simp at hb
   · rw [List.length_append, List.length_singleton, ← List.drop_drop, hd]; rfl
def allB (f : Nat → Bool) : Nat → Bool
 | 0 => true
 | n + 1 => allB f n && f n
theorem allB_spec {f : Nat → Bool} : ∀ {n i : Nat}, allB f n = true → i < n → f i = true
 | n + 1, i, h, hi => by
   simp only [allB, Bool.and_eq_true] at h
   by_cases e : i = n
   · rw [e]; exact h.2
   · exact allB_spec h.1 (by omega)
def dstOf (all : Array Oper) (j : Nat) : Option Nat := (all[j]?).bind (·.dst)
def okPair (all : Array Oper) (ms : List Nat) (i j : Nat) (reads : List Nat) (di : Option Nat) : Bool :=
 Nat.beq i j || (match dstOf all j with
   | some t => (match idx t reads with
     | some _ => (ms.getD i 0).testBit j || (ms.getD j 0).testBit i
     | none => true) && (match di with
     | some t' => !Nat.beq t t'
     | none => true)
   | none => true)
/-- A rank: what an operation waits for, in any mode, has a lower one. -/
def fwd : Nat → List Oper → Bool
 | _, [] => false
 | i, o :: l => o.after.toList.any (fun e => Nat.ble i e.on) || fwd (i + 1) l
def maxL : List Nat → Nat
 | [] => 0
 | a :: l => Nat.max a (maxL l)
def rkPass (md : Region.Mode) : Nat → List Oper → List Nat → List Nat
 | _, [], rk => rk
 | i, o :: l, rk => rkPass md (i + 1) l (rk.set i (maxL ((o.after.toList.filter (fun e => Region.binds md e)).map fun e => rk.getD e.on 0 + 1)))
def rkOf (all : Array Oper) : Region.Mode → Nat → Nat :=
 match fwd 0 all.toList with
 | false => fun _ i => i
 | true => fun md i => (rkPass md 0 all.toList (rkPass md 0 all.toList (rkPass md 0 all.toList (all.toList.map fun _ => 0)))).getD i 0
def rkOk (rk : Region.Mode → Nat → Nat) (m i : Nat) (md : Region.Mode) (e : Edge) : Bool := !Region.binds md e || (Nat.blt e.on m && Nat.blt (rk md e.on) (rk md i))
def okAt (all : Array Oper) (ms : List Nat) (rk : Region.Mode → Nat → Nat) (m i : Nat) : Bool :=
 match all[i]? with
 | some o => (edgesOf o).all (fun k => Nat.blt k i) && (match Nat.blt i m with
   | true => o.after.toList.all (fun e => rkOk rk m i .text e && (rkOk rk m i .gc e && rkOk rk m i .any e)) && allB (fun j => okPair all ms i j (o.looksAt all) o.dst) m
   | false => o.after.toList.all (fun e => Nat.blt e.on i) && allB (fun j => (ms.getD i 0).testBit j) i)
 | none => false
def drawOk (all : Array Oper) (m : Nat) : Bool := Nat.ble m all.size && allB (okAt all (masksOf all.toList []) (rkOf all) m) all.size
structure DrawOk (all : Array Oper) (m : Nat) : Prop where
 le : m ≤ all.size
 low : ∀ (i : Nat) (o : Oper) (k : Nat), all[i]? = some o → k ∈ edgesOf o → k < i
 lowT : ∀ (i : Nat) (o : Oper) (e : Edge), m ≤ i → all[i]? = some o → e ∈ o.after.toList → e.on < i
 rk : ∀ md : Region.Mode, ∃ rk : Nat → Nat, ∀ (i : Nat) (o : Oper) (e : Edge), i < m → all[i]? = some o → e ∈ o.after.toList → Region.binds md e = true → e.on < m ∧ rk e.on < rk i
 reads : ∀ i o j p t, i < m → j < m → i ≠ j → all[i]? = some o → all[j]? = some p → p.dst = some t → t ∈ o.looksAt all → Anc all i j ∨ Anc all j i
 dsts : ∀ i o j p t, i < m → j < m → i ≠ j → all[i]? = some o → all[j]? = some p → p.dst = some t → o.dst ≠ some t
 tail : ∀ i j, m ≤ i → i < all.size → j < i → Anc all i j
theorem drawOk_spec {all : Array Oper} {m : Nat} (h : drawOk all m = true) : DrawOk all m := by
 simp only [drawOk, Bool.and_eq_true, Nat.ble_eq] at h
 obtain ⟨h0, h⟩ := h
 have hms := masksOf_bit (all := all) (l := all.toList) (ms := []) (fun j i hb => by simp at hb) (by simp)
 generalize masksOf all.toList [] = ms at *
 generalize rkOf all = rk at *
 have hat : ∀ i o, all[i]? = some o → okAt all ms rk m i = true := fun i o ho => allB_spec h (Array.getElem?_eq_some_iff.mp ho).1
 refine ⟨h0, ?_, ?_, fun md => ⟨rk md, ?_⟩, ?_, ?_, ?_⟩
 · intro i o k ho hk
   have := hat i o ho
   simp only [okAt, ho, Bool.and_eq_true, List.all_eq_true] at this
   simpa using this.1 k hk
 · intro i o e hi ho he
   have := hat i o ho
   simp only [okAt, ho, Bool.and_eq_true] at this
   have hb : Nat.blt i m = false := by
     cases hh : Nat.blt i m with
     | false => rfl
     | true => simp at hh; omega
   rw [hb] at this
   simp only [Bool.and_eq_true, List.all_eq_true] at this
   simpa using this.2.1 e he
 · intro i o e hi ho he hbi
   have := hat i o ho
   simp only [okAt, ho, Bool.and_eq_true] at this
   have hb : Nat.blt i m = true := by simpa using hi
   rw [hb] at this
   simp only [Bool.and_eq_true, List.all_eq_true] at this
   have hk := this.2.1 e he
   have hk2 : rkOk rk m i md e = true := by
     cases md
     · exact hk.1
     · exact hk.2.1
     · exact hk.2.2
   unfold rkOk at hk2
   rw [hbi] at hk2
   simpa using hk2
 · intro i o j p t hi hj hij ho hp hd ht
   have := hat i o ho
   simp only [okAt, ho, Bool.and_eq_true] at this
   have hb : Nat.blt i m = true := by simpa using hi
   rw [hb] at this
   simp only [Bool.and_eq_true] at this
   have := allB_spec this.2.2 hj
   simp only [okPair, dstOf, hp, Option.bind_some, hd, Bool.or_eq_true, Bool.and_eq_true] at this
   rcases this with this | ⟨this, _⟩
   · exact absurd (Nat.eq_of_beq_eq_true this) hij
   · split at this
     · simp only [Bool.or_eq_true] at this
       exact this.imp (hms i j) (hms j i)
     · rename_i hn
       obtain ⟨q, hq⟩ := List.getElem?_of_mem ht
       exact absurd hq (idx_none hn q)
 · intro i o j p t hi hj hij ho hp hd hod
   have := hat i o ho
   simp only [okAt, ho, Bool.and_eq_true] at this
   have hb : Nat.blt i m = true := by simpa using hi
   rw [hb] at this
   simp only [Bool.and_eq_true] at this
   have := allB_spec this.2.2 hj
   simp only [okPair, dstOf, hp, Option.bind_some, hd, hod, Bool.or_eq_true, Bool.and_eq_true] at this
   rcases this with this | ⟨_, this⟩
   · exact absurd (Nat.eq_of_beq_eq_true this) hij
   · simp at this
 · intro i j hm hi hj
   have ho : all[i]? = some all[i] := by simp [hi]
   have := hat i _ ho
   simp only [okAt, ho, Bool.and_eq_true] at this
   have hb : Nat.blt i m = false := by
     cases hh : Nat.blt i m with
     | false => rfl
     | true => simp at hh; omega
   rw [hb] at this
   simp only [Bool.and_eq_true] at this
   exact hms i j (allB_spec this.2.2 hj)
theorem Anc.lt {all : Array Oper} {m : Nat} (h : DrawOk all m) {j i : Nat} (ha : Anc all j i) : i < j := by
 induction ha with
 | edge ho hk => exact h.low _ _ _ ho hk
 | more ho hk _ ih => exact Nat.lt_trans ih (h.low _ _ _ ho hk)
theorem Anc.lt_size {all : Array Oper} {j i : Nat} (ha : Anc all j i) : j < all.size := by
 cases ha with
 | edge ho _ => exact (Array.getElem?_eq_some_iff.mp ho).1
 | more ho _ _ => exact (Array.getElem?_eq_some_iff.mp ho).1
/-- A set of operations that have run: what they wait for has run. -/
def Down (all : Array Oper) (S : Nat → Bool) : Prop := ∀ j o k, S j = true → all[j]? = some o → k ∈ edgesOf o → S k = true
theorem Down.anc {all : Array Oper} {S : Nat → Bool} (h : Down all S) {j i : Nat} (ha : Anc all j i) : S j = true → S i = true := by
 induction ha with
 | edge ho hk => exact fun hj => h _ _ _ hj ho hk
 | more ho hk _ ih => exact fun hj => ih (h _ _ _ hj ho hk)
def cnt (f : Nat → Bool) : Nat → Nat
 | 0 => 0
 | n + 1 => cnt f n + if f n then 0 else 1
theorem cnt_zero {f : Nat → Bool} : ∀ {n : Nat}, cnt f n = 0 → ∀ i, i < n → f i = true
 | n + 1, h, i, hi => by
   simp only [cnt] at h
   by_cases e : i = n
   · subst e
     cases hf : f i with
     | true => rfl
     | false => simp [hf] at h
   · exact cnt_zero (n := n) (by omega) i (by omega)
theorem cnt_same {f g : Nat → Bool} : ∀ {n : Nat}, (∀ j, j < n → g j = f j) → cnt g n = cnt f n
 | 0, _ => rfl
 | n + 1, h => by simp only [cnt, cnt_same (n := n) fun j hj => h j (by omega), h n (by omega)]
theorem cnt_set {f g : Nat → Bool} {i : Nat} : ∀ {n : Nat}, i < n → f i = false → g i = true → (∀ j, j ≠ i → g j = f j) → cnt g n + 1 = cnt f n
 | n + 1, hi, hf, hg, h => by
   simp only [cnt]
   by_cases e : i = n
   · subst e
     rw [cnt_same (f := f) (g := g) fun j hj => h j (by omega)]
     simp [hf, hg]
   · have := cnt_set (n := n) (by omega) hf hg h
     rw [h n (by omega)]; omega
theorem ready_of {md : Region.Mode} {all : Array Oper} {listed : Array Bool} (hsz : listed.size = all.size) {i : Nat} (h : i ∈ Region.ready md all listed) : ∃ o, all[i]? = some o ∧ listed.getD i false = false ∧ ∀ k ∈ edgesOf o, listed.getD k false = true := by
 simp only [Region.ready, List.mem_filter, List.mem_range, Bool.and_eq_true, Bool.not_eq_true'] at h
 obtain ⟨h1, h2, h3⟩ := h
 have ho : all[i]? = some all[i] := by simp [h1]
 refine ⟨_, ho, ?_, ?_⟩
 · have : i < listed.size := by omega
   simpa [Array.getD_eq_getD_getElem?, this] using h2
 · intro k hk
   simp only [ho, Option.map_some, Option.getD_some, Array.all_eq_true'] at h3
   simp only [edgesOf, List.mem_map, List.mem_filter] at hk
   obtain ⟨e, ⟨he, hb⟩, rfl⟩ := hk
   have := h3 e (by simpa using he)
   have hb' : Region.binds md e = true := by
     unfold Region.binds at hb ⊢
     split at hb <;> simp_all
   simpa [hb'] using this
theorem ready_if {md : Region.Mode} {all : Array Oper} {listed : Array Bool} (hsz : listed.size = all.size) {i : Nat} {o : Oper} (ho : all[i]? = some o) (h1 : listed.getD i false = false) (h2 : ∀ e ∈ o.after.toList, Region.binds md e = true → listed.getD e.on false = true) : i ∈ Region.ready md all listed := by
 simp only [Region.ready, List.mem_filter, List.mem_range, Bool.and_eq_true, Bool.not_eq_true']
 have hi := (Array.getElem?_eq_some_iff.mp ho).1
 refine ⟨hi, ?_, ?_⟩
 · have : i < listed.size := by omega
   simpa [Array.getD_eq_getD_getElem?, this] using h1
 · simp only [ho, Option.map_some, Option.getD_some, Array.all_eq_true']
   intro e he
   cases hb : Region.binds md e with
   | true =>
     have := h2 e (by simpa using he) hb
     simp only [this, Bool.or_true]
   | false => simp
theorem getD_set {listed : Array Bool} {i j : Nat} (hi : i < listed.size) : (listed.setIfInBounds i true).getD j false = if j = i then true else listed.getD j false := by
 simp only [Array.getD_eq_getD_getElem?, Array.getElem?_setIfInBounds]
 by_cases e : i = j
 · subst e; simp [hi]
 · simp [e, Ne.symm e]
end Go.Am

/- The abstract machine, part 23f: any order will do. -/
namespace Go.Am
open Go
def wpLs (ro : Option Nat) (P : Program) (all : Array Oper) (Q : Exit → Act → World → Prop) : List Oper → Act → World → Prop
 | [], a, w => Q .normal a w
 | o :: rest, a, w => if Region.wanted o (yielded all a.tmps) then o.wpIn (Fw ro) 0 P a w (wpLs ro P all Q rest) Q else wpLs ro P all Q rest (a.put o.dst undef) w
/-- The state of which only what o reads is known. -/
def maskO (all : Array Oper) (o : Oper) (s : St) : St := ⟨keepTm (o.looksAt all) 0 s.tm, s.ob⟩
structure PlanOk (X : Cy) (all : Array Oper) (m : Nat) (base e : St) (s : Nat → St) (vals : Nat → AV) : Prop where
 first : s 0 = base
 last : s m = e
 step : ∀ i, i < m → ∃ o, all[i]? = some o ∧ (s i).putB o.dst (vals i) = some (s (i + 1)) ∧
   ((guardOf all o (maskO all o (s i)) = some false ∧ vals i = .tup []) ∨
    (guardOf all o (maskO all o (s i)) = some true ∧ ∃ v p, effH X (maskO all o (s i)) o = some (v, p) ∧ p ∧ ∀ E I F w u, TR E I F w v u → TR E I F w (vals i) u))
/-- The temporaries, some operations having run. -/
structure AtS (all : Array Oper) (m : Nat) (base : St) (vals : Nat → AV) (S : Nat → Bool) (tm : List AV) : Prop where
 len : tm.length = base.tm.length
 new : ∀ j o t, j < m → S j = true → all[j]? = some o → o.dst = some t → tm[t]? = some (vals j)
 old : ∀ t, (∀ j o, j < m → S j = true → all[j]? = some o → o.dst ≠ some t) → tm[t]? = base.tm[t]?
theorem keepTm_kept {live : List Nat} : ∀ {l : List AV} {i j : Nat} {y : AV}, (keepTm live i l)[j]? = some y → y = .dead ∨ (l[j]? = some y ∧ (i + j) ∈ live)
 | [], i, j, y, h => by simp [keepTm] at h
 | x :: l, i, 0, y, h => by
   simp only [keepTm, List.getElem?_cons_zero] at h
   split at h
   · rename_i k hk
     injection h with h
     refine .inr ⟨by simp [h], ?_⟩
     exact List.mem_of_getElem? (idx_some hk)
   · injection h with h; exact .inl h.symm
 | x :: l, i, j + 1, y, h => by
   simp only [keepTm, List.getElem?_cons_succ] at h
   rcases keepTm_kept h with h | ⟨h, h'⟩
   · exact .inl h
   · exact .inr ⟨by simpa using h, by rw [show i + (j + 1) = i + 1 + j by omega]; exact h'⟩
section
variable {X : Cy} {G : En} {E : Env} {F : Nat → Prop} {st σ : St} {a : Act} {w : World}
theorem Rel.maskAs (h : Rel G E F st a w) (hob : σ.ob = st.ob) (hlen : σ.tm.length = st.tm.length) (ht : ∀ (t : Nat) (y : AV), σ.tm[t]? = some y → y = .dead ∨ st.tm[t]? = some y) : Rel G E F σ a w := by
 have hinf : σ.inf = st.inf := by funext o; simp only [St.inf, hob]
 refine { h with size := by rw [h.size, hlen], tms := ?_, obs := by rw [hinf, hob]; exact h.obs, apart := ?_, inj := ?_, own := ?_, stay := by rw [hinf]; exact h.stay, live0 := ?_ }
 · intro i y hy
   rw [hinf]
   rcases ht i y hy with rfl | g
   · trivial
   · exact h.tms i y g
 · intro o ho; exact h.apart o (by simpa only [St.live, hinf] using ho)
 · intro o o' ho ho'; exact h.inj o o' (by simpa only [St.live, hinf] using ho) (by simpa only [St.live, hinf] using ho')
 · intro o ho; exact h.own o (by simpa only [St.live, hinf] using ho)
 · intro o ho; simpa only [St.live, hinf] using h.live0 o ho
theorem run_effH {ro : Option Nat} (hX : X.Ok) (hG : G.gl = X.gl) (h : Rel G E F st a w) (hs : Rel G E F σ a w) (hob : σ.ob = st.ob) {o : Oper} {v : AV} {p : Prop} (he : effH X σ o = some (v, p)) (hp : p)
   {next : Act → World → Prop} {Q : Exit → Act → World → Prop} (hnext : ∀ E' F' w' u, Rel G E' F' st a w' → TR E' st.inf F' w' v u → next (a.put o.dst u) w') : o.wpIn (Fw ro) 0 X.P a w next Q := by
 have hinf : σ.inf = st.inf := by funext o; simp only [St.inf, hob]
 have kpure : effQ X.toCx X.gl σ o = some (v, p) → o.wpIn (Fw ro) 0 X.P a w next Q := by
   intro he
   rw [← hG] at he
   obtain ⟨r, g1, g2⟩ := run_effQ hX.toOk hs he hp
   refine wpIn_of_run g1 (fun d h => nomatch h) ?_
   exact hnext _ _ _ _ h (by rw [← hinf]; exact g2)
 unfold effH at he
 split at he
 · exact run_bldV hX hG h hs he hp hnext
 · split at he
   · rename_i c ho
     split at he
     · exact run_callH hX hG h hs ho he hp hnext
     · exact kpure he
   · exact kpure he
variable {all : Array Oper} {m : Nat} {base e : St} {s : Nat → St} {vals : Nat → AV}
theorem PlanOk.at (hd : DrawOk all m) (hp : PlanOk X all m base e s vals) : ∀ i, i ≤ m → (s i).ob = base.ob ∧ AtS all m base vals (fun j => Nat.blt j i) (s i).tm
 | 0, _ => by
   rw [hp.first]
   exact ⟨rfl, ⟨rfl, fun j o t _ hj => by simp at hj, fun t _ => rfl⟩⟩
 | i + 1, hi => by
   obtain ⟨h1, h2⟩ := PlanOk.at hd hp i (by omega)
   obtain ⟨o, ho, hput, _⟩ := hp.step i (by omega)
   obtain ⟨e1, e2⟩ := St.putB_spec hput
   rw [e1]
   refine ⟨by rw [St.ob_put, h1], ?_⟩
   cases hdst : o.dst with
   | none =>
     refine ⟨h2.len, fun j p t hj hS hpj hdj => ?_, fun t ht => h2.old t fun j p hj hS => ht j p hj (by simp at hS ⊢; omega)⟩
     have hne : j ≠ i := fun e => by subst e; rw [ho] at hpj; injection hpj with hpj; subst hpj; rw [hdst] at hdj; cases hdj
     exact h2.new j p t hj (by simp at hS ⊢; omega) hpj hdj
   | some d =>
     have hlt := e2 d hdst
     refine ⟨by simp [St.put, h2.len], fun j p t hj hS hpj hdj => ?_, fun t ht => ?_⟩
     · simp only [St.put]
       by_cases hji : j = i
       · subst hji
         rw [ho] at hpj; injection hpj with hpj; subst hpj
         rw [hdst] at hdj; injection hdj with hdj; subst hdj
         simp [hlt]
       · have hne : d ≠ t := fun e => hd.dsts i o j p t (by omega) hj (fun e => hji e.symm) ho hpj hdj (by rw [hdst, e])
         rw [List.getElem?_set_ne hne]
         exact h2.new j p t hj (by simp at hS ⊢; omega) hpj hdj
     · simp only [St.put]
       have hne : d ≠ t := fun e => ht i o (by omega) (by simp) ho (by rw [hdst, e])
       rw [List.getElem?_set_ne hne]
       exact h2.old t fun j p hj hS => ht j p hj (by simp at hS ⊢; omega)
/-- What an operation reads is the same in any order. -/
theorem AtS.mask (hd : DrawOk all m) (hp : PlanOk X all m base e s vals) {S : Nat → Bool} {tm : List AV} (hS : Down all S) (ht : AtS all m base vals S tm) {i : Nat} (hi : i < m) (hSi : S i = false) {o : Oper} (ho : all[i]? = some o) (hanc : ∀ k ∈ edgesOf o, S k = true) :
   ∀ (t : Nat) (y : AV), (maskO all o (s i)).tm[t]? = some y → y = .dead ∨ tm[t]? = some y := by
 intro t y hy
 obtain ⟨h1, h2⟩ := hp.at hd i (by omega)
 rcases keepTm_kept hy with rfl | ⟨hy, hr⟩
 · exact .inl rfl
 right
 rw [Nat.zero_add] at hr
 have hSanc : ∀ j, Anc all i j → S j = true := fun j ha => by
   cases ha with
   | edge ho' hk => rw [ho] at ho'; injection ho' with ho'; subst ho'; exact hanc _ hk
   | more ho' hk ha => rw [ho] at ho'; injection ho' with ho'; subst ho'; exact hS.anc ha (hanc _ hk)
 by_cases hw : ∃ j p, j < m ∧ all[j]? = some p ∧ p.dst = some t
 · obtain ⟨j, p, hj, hpj, hdj⟩ := hw
   have huniq : ∀ j' p', j' < m → all[j']? = some p' → p'.dst = some t → j' = j := fun j' p' hj' hp' hd' => by
     by_cases e : j' = j
     · exact e
     · exact absurd hd' (hd.dsts j' p' j p t hj' hj e hp' hpj hdj)
   have hcase : Anc all i j ∨ (j = i ∨ Anc all j i) := by
     by_cases e : i = j
     · exact .inr (.inl e.symm)
     · rcases hd.reads i o j p t hi hj e ho hpj hdj hr with g | g
       · exact .inl g
       · exact .inr (.inr g)
   rcases hcase with g | g
   · have hji := g.lt hd
     have hSj := hSanc j g
     have v1 := h2.new j p t hj (by simpa using hji) hpj hdj
     have v2 := ht.new j p t hj hSj hpj hdj
     rw [v2, ← v1, hy]
   · have hSj : S j = false := by
       rcases g with g | g
       · rw [g]; exact hSi
       · cases hh : S j with
         | false => rfl
         | true => rw [hS.anc g hh] at hSi; cases hSi
     have hij : ¬ j < i := by
       rcases g with g | g
       · omega
       · have := g.lt hd; omega
     have v1 := h2.old t fun j' p' hj' hS' hp' hd' => by
       have := huniq j' p' hj' hp' hd'
       subst this
       simp at hS'; exact hij hS'
     have v2 := ht.old t fun j' p' hj' hS' hp' hd' => by
       have := huniq j' p' hj' hp' hd'
       subst this
       rw [hS'] at hSj; cases hSj
     rw [v2, ← v1, hy]
 · have v1 := h2.old t fun j' p' hj' _ hp' hd' => hw ⟨j', p', hj', hp', hd'⟩
   have v2 := ht.old t fun j' p' hj' _ hp' hd' => hw ⟨j', p', hj', hp', hd'⟩
   rw [v2, ← v1, hy]
theorem blt_false {a b : Nat} (h : Nat.blt a b = false) : b ≤ a :=
 Nat.le_of_not_lt fun hlt => by have : Nat.blt a b = true := by simpa using hlt
                                rw [h] at this; cases this
theorem blt_of_le {a b : Nat} (h : b ≤ a) : Nat.blt a b = false := by
 cases hb : Nat.blt a b with
 | false => rfl
 | true => simp at hb; omega
/-- What must come last comes in its order. -/
theorem tail_any {ro : Option Nat} {md : Region.Mode} {P : Program} {Q : Exit → Act → World → Prop} (hd : DrawOk all m) : ∀ (fuel i : Nat) (listed : Array Bool) (a : Act) (w : World), listed.size = all.size → m ≤ i → i + fuel = all.size → (∀ j, j < all.size → listed.getD j false = Nat.blt j i) →
   wpLs ro P all Q (all.toList.drop i) a w → wpAnyIn (Fw ro) 0 P md all Q fuel listed a w := by
 intro fuel
 induction fuel with
 | zero =>
   intro i listed a w hsz hm hi hl h
   have hnil : Region.ready md all listed = [] := by
     apply List.eq_nil_iff_forall_not_mem.mpr
     intro j hj
     obtain ⟨o, ho, h1, _⟩ := ready_of hsz hj
     have hjs := (Array.getElem?_eq_some_iff.mp ho).1
     rw [hl j hjs] at h1
     have := blt_false h1; omega
   refine ⟨hnil, ?_⟩
   rw [List.drop_eq_nil_of_le (by simp; omega)] at h
   exact h
 | succ fuel ih =>
   intro i listed a w hsz hm hi hl h
   have hilt : i < all.size := by omega
   have ho : all[i]? = some all[i] := by simp [hilt]
   have hir : i ∈ Region.ready md all listed := by
     refine ready_if hsz ho (by rw [hl i hilt]; exact blt_of_le (Nat.le_refl _)) fun e he _ => ?_
     have := hd.lowT i _ e hm ho he
     rw [hl e.on (by omega)]; simpa using this
   refine ⟨fun e => (by rw [e] at hir; cases hir), ?_⟩
   intro j hj
   obtain ⟨o, hoj, h1, h2⟩ := ready_of hsz hj
   have hjs := (Array.getElem?_eq_some_iff.mp hoj).1
   have hji : j = i := by
     rw [hl j hjs] at h1
     have hge : i ≤ j := blt_false h1
     by_cases e : j = i
     · exact e
     · have ha := hd.tail j i (by omega) hjs (by omega)
       cases ha with
       | edge ho' hk =>
         rw [hoj] at ho'; injection ho' with ho'; subst ho'
         have := h2 _ hk
         rw [hl i hilt] at this; simp at this
       | more ho' hk ha =>
         rw [hoj] at ho'; injection ho' with ho'; subst ho'
         have := h2 _ hk
         have hlt := ha.lt hd
         rw [hl _ ha.lt_size] at this; simp at this; omega
   subst hji
   rw [ho] at hoj; injection hoj with hoj
   have hdrop : all.toList.drop j = all[j] :: all.toList.drop (j + 1) := by
     rw [List.drop_eq_getElem_cons (by simpa using hilt)]; simp
   rw [hdrop] at h
   simp only [wpLs] at h
   have hl' : ∀ q, q < all.size → (listed.setIfInBounds j true).getD q false = Nat.blt q (j + 1) := fun q hq => by
     rw [getD_set (by omega), hl q hq]
     by_cases e : q = j
     · subst e; simp
     · simp only [e, if_false]
       cases hb : Nat.blt q (j + 1) with
       | false => exact blt_of_le (by have := blt_false hb; omega)
       | true => have : q < j + 1 := by simpa using hb
                 have : q < j := by omega
                 simpa using this
   unfold wpOpIn
   simp only [ho]
   split
   · rename_i hw
     rw [if_pos hw] at h
     exact (Oper.wpIn_mono (fun a w hh => ih (j + 1) _ a w (by simpa using hsz) (by omega) (by omega) hl' hh) h)
   · rename_i hw
     rw [if_neg hw] at h
     refine ⟨fun _ _ => trivial, ?_⟩
     exact ih (j + 1) _ _ w (by simpa using hsz) (by omega) (by omega) hl' h
/-- Any order will do. -/
theorem any_order {ro : Option Nat} {md : Region.Mode} (hX : X.Ok) (hG : G.gl = X.gl) (hd : DrawOk all m) (hp : PlanOk X all m base e s vals) {Q : Exit → Act → World → Prop}
   (htail : ∀ E F a w, Rel G E F e a w → wpLs ro X.P all Q (all.toList.drop m) a w) : ∀ (fuel : Nat) (listed : Array Bool) (E : Env) (F : Nat → Prop) (a : Act) (w : World) (tm : List AV), listed.size = all.size →
     Down all (fun j => listed.getD j false) → (∀ j, m ≤ j → listed.getD j false = false) → cnt (fun j => listed.getD j false) all.size ≤ fuel → AtS all m base vals (fun j => listed.getD j false) tm → Rel G E F ⟨tm, base.ob⟩ a w →
     wpAnyIn (Fw ro) 0 X.P md all Q fuel listed a w := by
 have hfull : ∀ (fuel : Nat) (listed : Array Bool) (E : Env) (F : Nat → Prop) (a : Act) (w : World) (tm : List AV), listed.size = all.size → (∀ j, m ≤ j → listed.getD j false = false) → (∀ j, j < m → listed.getD j false = true) →
     all.size = m + fuel → AtS all m base vals (fun j => listed.getD j false) tm → Rel G E F ⟨tm, base.ob⟩ a w → wpAnyIn (Fw ro) 0 X.P md all Q fuel listed a w := by
   intro fuel listed E F a w tm hsz hge hlt hf ht hr
   have hl : ∀ j, j < all.size → listed.getD j false = Nat.blt j m := fun j hj => by
     by_cases e : j < m
     · rw [hlt j e]; simpa using e
     · rw [hge j (by omega)]
       cases hb : Nat.blt j m with
       | false => rfl
       | true => simp at hb; omega
   have hst : (⟨tm, base.ob⟩ : St) = e := by
     obtain ⟨h1, h2⟩ := hp.at hd m (Nat.le_refl _)
     rw [hp.last] at h1 h2
     have htm : tm = e.tm := by
       apply List.ext_getElem?
       intro t
       by_cases hw : ∃ j p, j < m ∧ all[j]? = some p ∧ p.dst = some t
       · obtain ⟨j, p, hj, hpj, hdj⟩ := hw
         rw [ht.new j p t hj (hlt j hj) hpj hdj, h2.new j p t hj (by simpa using hj) hpj hdj]
       · rw [ht.old t fun j p hj _ hpj hdj => hw ⟨j, p, hj, hpj, hdj⟩, h2.old t fun j p hj _ hpj hdj => hw ⟨j, p, hj, hpj, hdj⟩]
     rw [htm, ← h1]
   rw [hst] at hr
   exact tail_any hd fuel m listed a w hsz (Nat.le_refl _) hf.symm hl (htail E F a w hr)
 intro fuel
 induction fuel with
 | zero =>
   intro listed E F a w tm hsz hdn hge hc ht hr
   have hall := cnt_zero (Nat.le_zero.mp hc)
   have hmm : m = all.size := by
     have := hd.le
     by_cases e : m = all.size
     · exact e
     · have this : listed.getD m false = true := hall m (by omega)
       rw [hge m (Nat.le_refl _)] at this; cases this
   exact hfull 0 listed E F a w tm hsz hge (fun j hj => hall j (by omega)) (by omega) ht hr
 | succ fuel ih =>
   intro listed E F a w tm hsz hdn hge hc ht hr
   by_cases hmall : ∀ j, j < m → listed.getD j false = true
   · -- all of the pure part has run
     have hcount : all.size ≤ m + (fuel + 1) := by
       have : ∀ n, n ≤ all.size → (∀ j, j < m → listed.getD j false = true) → n ≤ m + cnt (fun j => listed.getD j false) n := by
         intro n
         induction n with
         | zero => intro _ _; omega
         | succ n ihn =>
           intro hn hj
           have := ihn (by omega) hj
           simp only [cnt]
           by_cases e : n < m
           · omega
           · have e1 := hge n (by omega)
             simp only [e1, Bool.false_eq_true, if_false]; omega
       have := this all.size (Nat.le_refl _) hmall
       omega
     -- fewer steps are left than there is fuel
     have hfuel : ∀ f g : Nat, f ≤ g → ∀ (listed : Array Bool) (a : Act) (w : World), wpAnyIn (Fw ro) 0 X.P md all Q f listed a w → wpAnyIn (Fw ro) 0 X.P md all Q g listed a w := by
       intro f
       induction f with
       | zero =>
         intro g _ listed a w h
         cases g with
         | zero => exact h
         | succ g => exact ⟨fun _ => h.2, fun i hi => by rw [h.1] at hi; cases hi⟩
       | succ f ihf =>
         intro g hg listed a w h
         cases g with
         | zero => omega
         | succ g => exact ⟨h.1, fun i hi => wpOpIn_mono (fun a w hh => ihf g (by omega) _ a w hh) (h.2 i hi)⟩
     have hle := hd.le
     exact hfuel (all.size - m) (fuel + 1) (by omega) listed a w (hfull _ listed E F a w tm hsz hge hmall (by omega) ht hr)
   · -- some of it has not
     have hex : ∃ j, j < m ∧ listed.getD j false = false := by
       refine Classical.byContradiction fun hne => hmall fun j hj => ?_
       cases hh : listed.getD j false with
       | true => rfl
       | false => exact absurd ⟨j, hj, hh⟩ hne
     have hle := hd.le
     refine ⟨fun hnil => ?_, fun i hi => ?_⟩
     · exfalso
       obtain ⟨rk, hrk⟩ := hd.rk md
       have : ∀ n j, rk j < n → j < m → listed.getD j false = false → False := by
         intro n
         induction n with
         | zero => intro j hj; omega
         | succ n ihn =>
           intro j hjn hj hf
           have ho : all[j]? = some all[j] := by simp [show j < all.size by omega]
           by_cases hk : ∀ e ∈ (all[j]).after.toList, Region.binds md e = true → listed.getD e.on false = true
           · have := ready_if (md := md) hsz ho hf hk
             rw [hnil] at this; cases this
           · have : ∃ e ∈ (all[j]).after.toList, Region.binds md e = true ∧ listed.getD e.on false = false := by
               refine Classical.byContradiction fun hne => hk fun k hk' hb => ?_
               cases hh : listed.getD k.on false with
               | true => rfl
               | false => exact absurd ⟨k, hk', hb, hh⟩ hne
             obtain ⟨k, hk1, hkb, hk2⟩ := this
             have := hrk j _ k hj ho hk1 hkb
             exact ihn k.on (by omega) this.1 hk2
       obtain ⟨j, h1, h2⟩ := hex
       exact this (rk j + 1) j (by omega) h1 h2
     · obtain ⟨o, ho, hnl, hedges⟩ := ready_of hsz hi
       have his := (Array.getElem?_eq_some_iff.mp ho).1
       have him : i < m := by
         refine Nat.lt_of_not_le fun hmi => ?_
         obtain ⟨j, hj1, hj2⟩ := hex
         have ha := hd.tail i j hmi his (by omega)
         have : listed.getD j false = true := by
           cases ha with
           | edge ho' hk => rw [ho] at ho'; injection ho' with ho'; subst ho'; exact hedges _ hk
           | more ho' hk ha => rw [ho] at ho'; injection ho' with ho'; subst ho'; exact hdn.anc ha (hedges _ hk)
         rw [this] at hj2; cases hj2
       obtain ⟨o', ho', hput, hcase⟩ := hp.step i him
       rw [ho] at ho'; injection ho' with ho'; subst ho'
       have hmk := AtS.mask hd hp hdn ht him hnl ho hedges
       have hob : (maskO all o (s i)).ob = base.ob := (hp.at hd i (by omega)).1
       have hml : (maskO all o (s i)).tm.length = tm.length := by
         show (keepTm _ 0 (s i).tm).length = _
         rw [keepTm_length, ((hp.at hd i (by omega)).2).len, ht.len]
       have hσ : Rel G E F (maskO all o (s i)) a w := hr.maskAs hob hml hmk
       obtain ⟨e1, e2⟩ := St.putB_spec hput
       have hsl : (s i).tm.length = tm.length := by rw [((hp.at hd i (by omega)).2).len, ht.len]
       -- behind it
       have hgo : ∀ E' F' w' u, Rel G E' F' ⟨tm, base.ob⟩ a w' → TR E' (St.inf ⟨tm, base.ob⟩) F' w' (vals i) u → wpAnyIn (Fw ro) 0 X.P md all Q fuel (listed.setIfInBounds i true) (a.put o.dst u) w' := by
         intro E' F' w' u hr' hT
         have hput' := hr'.put (d := o.dst) (x := vals i) (v := u) (fun t ht' => Nat.lt_of_lt_of_le (e2 t ht') (Nat.le_of_eq hsl)) fun _ => hT
         have hS' : ∀ q, (listed.setIfInBounds i true).getD q false = if q = i then true else listed.getD q false := fun q => getD_set (by omega)
         refine ih (listed.setIfInBounds i true) E' F' _ w' (St.put ⟨tm, base.ob⟩ o.dst (vals i)).tm (by simpa using hsz) ?_ ?_ ?_ ?_ ?_
         · intro j p k hj hpj hk
           simp only [hS'] at hj ⊢
           by_cases e : k = i
           · simp [e]
           · simp only [e, if_false]
             by_cases ej : j = i
             · subst ej
               rw [ho] at hpj; injection hpj with hpj; subst hpj
               exact hedges k hk
             · simp only [ej, if_false] at hj
               exact hdn j p k hj hpj hk
         · intro j hj
           rw [hS', if_neg (by omega)]
           exact hge j hj
         · have := cnt_set (f := fun j => listed.getD j false) (g := fun j => (listed.setIfInBounds i true).getD j false) (i := i) his hnl (by simp [hS']) (fun j hj => by simp [hS', hj])
           omega
         · cases hdst : o.dst with
           | none =>
             refine ⟨ht.len, fun j p t hj hSj hpj hdj => ?_, fun t htt => ht.old t fun j p hj hSj => htt j p hj (by simp only [hS']; split <;> simp_all)⟩
             have hne : j ≠ i := fun e => by subst e; rw [ho] at hpj; injection hpj with hpj; subst hpj; rw [hdst] at hdj; cases hdj
             simp only [hS', hne, if_false] at hSj
             exact ht.new j p t hj hSj hpj hdj
           | some d =>
             have hlt := e2 d hdst
             refine ⟨by simp [St.put, ht.len], fun j p t hj hSj hpj hdj => ?_, fun t htt => ?_⟩
             · simp only [St.put]
               by_cases hji : j = i
               · subst hji
                 rw [ho] at hpj; injection hpj with hpj; subst hpj
                 rw [hdst] at hdj; injection hdj with hdj; subst hdj
                 have : d < tm.length := Nat.lt_of_lt_of_le hlt (Nat.le_of_eq hsl)
                 simp [this]
               · have hne : d ≠ t := fun e => hd.dsts i o j p t him hj (fun e => hji e.symm) ho hpj hdj (by rw [hdst, e])
                 rw [List.getElem?_set_ne hne]
                 simp only [hS', hji, if_false] at hSj
                 exact ht.new j p t hj hSj hpj hdj
             · simp only [St.put]
               have hne : d ≠ t := fun e => htt i o him (by simp [hS']) ho (by rw [hdst, e])
               rw [List.getElem?_set_ne hne]
               exact ht.old t fun j p hj hSj => htt j p hj (by simp only [hS']; split <;> simp_all)
         · have : (⟨(St.put ⟨tm, base.ob⟩ o.dst (vals i)).tm, base.ob⟩ : St) = St.put ⟨tm, base.ob⟩ o.dst (vals i) := by
             cases o.dst <;> rfl
           rw [this]; exact hput'
       unfold wpOpIn
       simp only [ho]
       rcases hcase with ⟨hg, hv⟩ | ⟨hg, v, p, hv, hpp, himp⟩
       · rw [if_neg (by rw [guardOf_wanted hσ hg]; simp)]
         exact ⟨fun _ _ => trivial, hgo E F w undef hr (by rw [hv]; simp only [TR]; exact ⟨[], rfl, by simp only [VRs]⟩)⟩
       · rw [if_pos (guardOf_wanted hσ hg)]
         exact (run_effH hX hG hr hσ hob hv hpp fun E' F' w' u hr' hT => hgo E' F' w' u hr' (himp _ _ _ _ _ hT))
theorem region_any {ro : Option Nat} (hX : X.Ok) (hG : G.gl = X.gl) {id : Nat} (hd : DrawOk all m) (hp : PlanOk X all m base e s vals) {Q : Exit → Act → World → Prop}
   (htail : ∀ E F a w, Rel G E F e a w → wpLs ro X.P all Q (all.toList.drop m) a w) (hr : Rel G E F base a w) : (Code.region id all true).wpIn (Fw ro) 0 X.P Q a w := by
 have hgrow : w.grownBy { w with drawn := w.drawn + 1 } none := ⟨rfl, rfl, rfl, Nat.le_refl _, fun _ _ _ => rfl⟩
 have hr' := hr.grown hgrow (fun _ => False) fun b hb => hb.elim
 have key : ∀ md, wpAnyIn (Fw ro) 0 X.P md all Q all.size (Array.replicate all.size false) a { w with drawn := w.drawn + 1 } := fun md => by
   have h0 : ∀ j, (Array.replicate all.size false).getD j false = false := fun j => by
     simp only [Array.getD_eq_getD_getElem?, Array.getElem?_replicate]
     split <;> rfl
   refine any_order hX hG hd hp htail all.size _ E _ a _ base.tm (by simp) (fun j o k hj => ?_) (fun j _ => h0 j) ?_ ⟨rfl, fun j o t _ hj => ?_, fun t _ => rfl⟩ hr'
   · simp only [h0] at hj; cases hj
   · have : ∀ n, cnt (fun j => (Array.replicate all.size false).getD j false) n ≤ n := by
       intro n
       induction n with
       | zero => exact Nat.le_refl _
       | succ n ih => simp only [cnt]; split <;> omega
     exact this _
   · simp only [h0] at hj; cases hj
 refine wpIn_region_draw fun t => ?_
 unfold Region.schedule
 split
 · exact wpAnyIn_sound all.size t _ a _ (key .any)
 · exact wpAnyIn_sound all.size _ _ a _ (key _)
end
end Go.Am
