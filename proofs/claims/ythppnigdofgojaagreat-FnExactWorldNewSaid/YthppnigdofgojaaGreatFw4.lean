/- Part of a proof that the law FnExactWorldNew answers true for every input: the framework, an evaluator over symbolic data and why it is right. No conditions beyond the statement. -/
import Derived.Test.YthppnigdofgojaaGreatFw3
import Derived.IntWalk
import Derived.ChangeArms
import Derived.SizedLaws
import Derived.Carry
import Derived.HandedShaped
import Derived.ProofKit
namespace Go.Av
open Go.RowKit (Below)
def pureOp (o : Oper) : Bool := match o.op, o.guard, o.dst with | .extract (.tmp _) _, none, some _ => true | .move (.tmp _), none, some _ => true | _, _, _ => false
def exOf (ex : List (Nat × Nat)) (i : Nat) : List Edge := (ex.filter fun p => Nat.beq p.1 i).map fun p => ⟨p.2, .data⟩
def addE (ex : List (Nat × Nat)) : List Oper → Nat → List Oper
  | [], _ => []
  | o :: r, i => { o with after := o.after ++ (exOf ex i).toArray } :: addE ex r (i + 1)
theorem addE_get (ex : List (Nat × Nat)) : ∀ (l : List Oper) (i k : Nat), (addE ex l i)[k]? = (l[k]?).map fun o => { o with after := o.after ++ (exOf ex (i + k)).toArray }
  | [], _, _ => by simp [addE]
  | o :: r, i, 0 => by simp [addE]
  | o :: r, i, k + 1 => by
    rw [addE, List.getElem?_cons_succ, addE_get ex r (i + 1) k, List.getElem?_cons_succ, show i + 1 + k = i + (k + 1) by omega]
theorem addE_len (ex : List (Nat × Nat)) : ∀ (l : List Oper) (i : Nat), (addE ex l i).length = l.length
  | [], _ => rfl
  | o :: r, i => by simp [addE, addE_len ex r]
def addA (ex : List (Nat × Nat)) (ops : Array Oper) : Array Oper := (addE ex ops.toList 0).toArray
theorem addA_get (ex : List (Nat × Nat)) (ops : Array Oper) (k : Nat) : (addA ex ops)[k]? = (ops[k]?).map fun o => { o with after := o.after ++ (exOf ex k).toArray } := by
  rw [addA, List.getElem?_toArray, addE_get, Array.getElem?_toList, Nat.zero_add]
theorem addA_size (ex : List (Nat × Nat)) (ops : Array Oper) : (addA ex ops).size = ops.size := by simp [addA, addE_len]
def hoistOk (ops : Array Oper) (ex : List (Nat × Nat)) : Bool :=
  Region.noSelect ops && ex.all fun p => (match ops[p.2]?, ops[p.1]? with
    | some oj, some oi => pureOp oj && (exOf ex p.2).isEmpty && (oj.after.toList.all fun e => !bindsAny e || oi.after.toList.any fun e' => bindsAny e' && Nat.beq e'.on e.on) &&
        (List.range ops.size).all fun k => Nat.beq k p.2 || (match ops[k]? with | some ok => (ok.after.toList.any fun e => bindsAny e && Nat.beq e.on p.2) || ((oj.after.toList.any fun e => bindsAny e && Nat.beq e.on k) || oj.apart ops ok) | none => true)
    | _, _ => false)
section
variable {P : Program} {ops : Array Oper} {Q : Exit → Act → World → Prop}
theorem yielded_addA (ex : List (Nat × Nat)) (ops : Array Oper) (tmps : Array Value) : yielded (addA ex ops) tmps = yielded ops tmps := by
  funext g
  unfold yielded
  rw [addA_get]
  cases ops[g]? <;> rfl
theorem wpOp_addA {ex : List (Nat × Nat)} {k : Nat} {K : Act → World → Prop} {a : Act} {w : World} (h : wpOp P (addA ex ops) Q k K a w) : wpOp P ops Q k K a w := by
  unfold wpOp at h ⊢
  rw [addA_get, yielded_addA] at h
  cases ho : ops[k]? with
  | none => rw [ho] at h; exact h
  | some o => rw [ho] at h; exact h
theorem pure_yields {o : Oper} (hp : pureOp o = true) (hL : ¬ LetsOut Q) (hQ : ∀ c a w, ¬ Q (.panic c) a w) {k : Nat} (ho : ops[k]? = some o) {K : Act → World → Prop} {a : Act} {w : World} (h : wpOp P ops Q k K a w) :
    ∃ v, Yields P ops o v a ∧ K (a.put o.dst v) w := by
  unfold pureOp at hp
  split at hp
  · rename_i t i d h1 h2 h3
    have hw : Region.wanted o (yielded ops a.tmps) = true := by simp [Region.wanted, h2]
    unfold wpOp at h
    rw [ho] at h
    simp only [hw, if_true] at h
    have h := h.resolve_right fun h => hL h.2
    unfold Oper.wp at h
    have he : ∀ w, (execOp a.eval o).run P w = (match a.eval (.tmp t) with | .tuple vs => (match vs[i]? with | some v => Result.ok (.value v) w | none => (execOp a.eval o).run P w) | _ => (execOp a.eval o).run P w) := fun w => by
      split
      · rename_i vs hv
        split
        · rename_i v hi
          simp [execOp, h1, hv, Instr.extract, hi]
        · rfl
      · rfl
    cases hv : a.eval (.tmp t) with
    | tuple vs =>
      cases hi : vs[i]? with
      | some v =>
        refine ⟨v, .inl ⟨hw, fun w => by rw [he w, hv]; simp only [hi]⟩, ?_⟩
        rw [he w, hv] at h
        simp only [hi, Oper.upon] at h
        exact h
      | none =>
        exfalso
        simp [execOp, h1, hv, Instr.extract, hi, Oper.upon] at h
    | _ =>
      exfalso
      simp [execOp, h1, hv, Instr.extract, Oper.upon] at h
  · rename_i t d h1 h2 h3
    have hw : Region.wanted o (yielded ops a.tmps) = true := by simp [Region.wanted, h2]
    unfold wpOp at h
    rw [ho] at h
    simp only [hw, if_true] at h
    have h := h.resolve_right fun h => hL h.2
    have he : ∀ w, (execOp a.eval o).run P w = .ok (.value (a.eval (.tmp t))) w := fun w => by simp [execOp, h1]
    refine ⟨a.eval (.tmp t), .inl ⟨hw, he⟩, ?_⟩
    unfold Oper.wp at h
    rw [he w, Oper.upon_value] at h
    exact h
  · simp at hp
theorem mem_exOf {ex : List (Nat × Nat)} {k : Nat} {e : Edge} (h : e ∈ exOf ex k) : ∃ p, p ∈ ex ∧ p.1 = k ∧ e.on = p.2 := by
  unfold exOf at h
  obtain ⟨p, hp, rfl⟩ := List.mem_map.1 h
  obtain ⟨h1, h2⟩ := List.mem_filter.1 hp
  exact ⟨p, h1, beq_eq h2, rfl⟩
theorem exOf_mem {ex : List (Nat × Nat)} {p : Nat × Nat} (h : p ∈ ex) : (⟨p.2, .data⟩ : Edge) ∈ exOf ex p.1 :=
  List.mem_map.2 ⟨p, List.mem_filter.2 ⟨h, Nat.beq_refl _⟩, rfl⟩
theorem ready_addA {ex : List (Nat × Nat)} {listed : Array Bool} {k : Nat} : k ∈ Region.ready .any (addA ex ops) listed ↔ k ∈ Region.ready .any ops listed ∧ ∀ p ∈ ex, p.1 = k → listed.getD p.2 false = true := by
  rw [mem_ready, mem_ready]
  constructor
  · rintro ⟨h0, o', ho', hall⟩
    rw [addA_get] at ho'
    cases ho : ops[k]? with
    | none => rw [ho] at ho'; simp at ho'
    | some o =>
      rw [ho] at ho'
      simp only [Option.map_some, Option.some.injEq] at ho'
      subst ho'
      refine ⟨⟨h0, o, rfl, fun e he hb => hall e (by simp [he]) hb⟩, fun p hp hk => ?_⟩
      subst hk
      exact hall ⟨p.2, .data⟩ (by simp [exOf_mem hp]) rfl
  · rintro ⟨⟨h0, o, ho, hall⟩, hex⟩
    refine ⟨h0, _, by rw [addA_get, ho]; rfl, fun e he hb => ?_⟩
    simp only [Array.mem_append, List.mem_toArray] at he
    rcases he with he | he
    · exact hall e he hb
    · obtain ⟨p, hp, h1, h2⟩ := mem_exOf he
      rw [h2]
      exact hex p hp h1
theorem hoist {ex : List (Nat × Nat)} (hok : hoistOk ops ex = true) (hL : ¬ LetsOut Q) (hQ : ∀ c a w, ¬ Q (.panic c) a w) :
    ∀ (fuel : Nat) (listed : Array Bool) (a : Act) (w : World), listed.size = ops.size → wpAny P .any (addA ex ops) Q fuel listed a w → wpAny P .any ops Q fuel listed a w := by
  unfold hoistOk at hok
  simp only [Bool.and_eq_true] at hok
  obtain ⟨hns, hok⟩ := hok
  have hsel := Region.noSelect_spec hns
  have facts : ∀ p ∈ ex, ∃ oj oi, ops[p.2]? = some oj ∧ ops[p.1]? = some oi ∧ pureOp oj = true ∧ exOf ex p.2 = [] ∧ (∀ e ∈ oj.after, bindsAny e = true → ∃ e' ∈ oi.after, bindsAny e' = true ∧ e'.on = e.on) ∧
      ∀ k ok, ops[k]? = some ok → k ≠ p.2 → (∀ e ∈ ok.after, Region.binds .any e = true → e.on ≠ p.2) → (∃ e ∈ oj.after, bindsAny e = true ∧ e.on = k) ∨ oj.apart ops ok = true := by
    intro p hp
    have h := List.all_eq_true.1 hok p hp
    cases h2 : ops[p.2]? with
    | none => rw [h2] at h; simp at h
    | some oj =>
      cases h1 : ops[p.1]? with
      | none => rw [h2, h1] at h; simp at h
      | some oi =>
        rw [h2, h1] at h
        simp only [Bool.and_eq_true] at h
        obtain ⟨⟨⟨g1, g2⟩, g3⟩, g4⟩ := h
        refine ⟨oj, oi, rfl, rfl, g1, List.isEmpty_iff.1 g2, fun e he hb => ?_, fun k ok hk hne hno => ?_⟩
        · have := List.all_eq_true.1 g3 e (by simpa using he)
          rw [hb] at this
          simp only [Bool.not_true, Bool.false_or] at this
          obtain ⟨e', he', h'⟩ := List.any_eq_true.1 this
          simp only [Bool.and_eq_true] at h'
          exact ⟨e', by simpa using he', h'.1, beq_eq h'.2⟩
        · have hlt : k < ops.size := (Array.getElem?_eq_some_iff.1 hk).1
          have := List.all_eq_true.1 g4 k (List.mem_range.2 hlt)
          rw [hk] at this
          simp only [Bool.or_eq_true] at this
          rcases this with h | h | h | h
          · exact absurd (beq_eq h) hne
          · obtain ⟨e', he', h'⟩ := List.any_eq_true.1 h
            simp only [Bool.and_eq_true] at h'
            exact absurd (beq_eq h'.2) (hno e' (by simpa using he') h'.1)
          · obtain ⟨e', he', h'⟩ := List.any_eq_true.1 h
            simp only [Bool.and_eq_true] at h'
            exact .inl ⟨e', by simpa using he', h'.1, beq_eq h'.2⟩
          · exact .inr h
  have hR : ∀ (listed : Array Bool), listed.size = ops.size → ∀ k, k ∈ Region.ready .any ops listed → ∀ p ∈ ex, p.1 = k → listed.getD p.2 false ≠ true → p.2 ∈ Region.ready .any (addA ex ops) listed ∧ p.2 ∈ Region.ready .any ops listed := by
    intro listed hls k hk p hp hpk hun
    obtain ⟨oj, oi, h2, h1, g1, g2, g3, g4⟩ := facts p hp
    obtain ⟨_, o, ho, hall⟩ := mem_ready.1 hk
    rw [← hpk, h1] at ho
    cases ho
    have hlt : p.2 < listed.size := by rw [hls]; exact (Array.getElem?_eq_some_iff.1 h2).1
    have hr : p.2 ∈ Region.ready .any ops listed := by
      refine mem_ready.2 ⟨?_, oj, h2, fun e he hb => ?_⟩
      · simp only [Array.getD_eq_getD_getElem?, Array.getElem?_eq_getElem hlt, Option.getD_some] at hun ⊢
        simpa using hun
      · obtain ⟨e', he', hb', h'⟩ := g3 e he hb
        rw [← h']
        exact hall e' he' hb'
    refine ⟨ready_addA.2 ⟨hr, fun q hq hqk => ?_⟩, hr⟩
    have := exOf_mem hq
    rw [hqk, g2] at this
    simp at this
  intro fuel
  induction fuel with
  | zero =>
    intro listed a w hls H
    refine ⟨List.eq_nil_iff_forall_not_mem.2 fun k hk => ?_, H.2⟩
    by_cases hall : ∀ p ∈ ex, p.1 = k → listed.getD p.2 false = true
    · have := ready_addA.2 ⟨hk, hall⟩
      rw [H.1] at this
      simp at this
    · simp only [Classical.not_forall] at hall
      obtain ⟨p, hp, hpk, hun⟩ := hall
      have := (hR listed hls k hk p hp hpk hun).1
      rw [H.1] at this
      simp at this
  | succ fuel ih =>
    intro listed a w hls H
    by_cases hex : ∃ p, p ∈ ex ∧ p.2 ∈ Region.ready .any ops listed
    · obtain ⟨p, hp, hr⟩ := hex
      obtain ⟨oj, oi, h2, h1, g1, g2, g3, g4⟩ := facts p hp
      have hr2 : p.2 ∈ Region.ready .any (addA ex ops) listed := ready_addA.2 ⟨hr, fun q hq hqk => by
        have := exOf_mem hq
        rw [hqk, g2] at this
        simp at this⟩
      obtain ⟨v, hy, hK⟩ := pure_yields g1 hL hQ h2 (wpOp_addA (H.2 p.2 hr2))
      refine wpAny_first h2 hsel (fun c a w h => (hQ _ _ _ h).elim) fuel listed a w (fun k ok hk hne hun hno => (g4 k ok hk hne hno).resolve_left fun ⟨e, he, hb, hek⟩ => ?_) hr hy (ih _ _ _ (by simpa using hls) hK)
      obtain ⟨_, o, ho, hall⟩ := mem_ready.1 hr
      rw [h2] at ho
      cases ho
      have h5 := hall e he hb
      rw [hek] at h5
      have hlt : k < listed.size := by rw [hls]; exact (Array.getElem?_eq_some_iff.1 hk).1
      simp only [Array.getD_eq_getD_getElem?, Array.getElem?_eq_getElem hlt, Option.getD_some] at hun h5
      rw [h5] at hun
      simp at hun
    · have hsub : ∀ k, k ∈ Region.ready .any ops listed → k ∈ Region.ready .any (addA ex ops) listed := fun k hk => by
        refine ready_addA.2 ⟨hk, fun p hp hpk => ?_⟩
        by_cases hun : listed.getD p.2 false = true
        · exact hun
        · exact absurd ⟨p, hp, (hR listed hls k hk p hp hpk hun).2⟩ hex
      refine ⟨fun h0 => H.1 (List.eq_nil_iff_forall_not_mem.2 fun k hk => ?_), fun k hk => ?_⟩
      · have := (ready_addA.1 hk).1
        rw [h0] at this
        simp at this
      · exact wpOp_mono (fun a' w' h => ih _ a' w' (by simpa using hls) h) (wpOp_addA (H.2 k (hsub k hk)))
end
section
variable {P : Program} {E : En}
def hoistT (E : En) (ops : Array Oper) (ex : List (Nat × Nat)) (st : St) : Tr St :=
  bif hoistOk ops ex && edgesOk (addE ex ops.toList 0) 0 then regT E true (addE ex ops.toList 0) (needs (addE ex ops.toList 0) []) (addE ex ops.toList 0) 0 st [] else .fail
theorem hoist_sem (hT : TTok P E) (hga : GAok P E) (hm : P.follows .mixedOrders = true) {id : Nat} {ops : Array Oper} {ex : List (Nat × Nat)} : RegSem P E (.region id ops true) (hoistT E ops ex) := by
  intro cx a w st st' h hrun
  have hW := wsound hT hga
  unfold hoistT at hrun
  cases hc : hoistOk ops ex && edgesOk (addE ex ops.toList 0) 0 with
  | false => rw [hc] at hrun; simp [Tr.run] at hrun
  | true =>
    rw [hc] at hrun
    simp only [cond_true] at hrun
    simp only [Bool.and_eq_true] at hc
    obtain ⟨hok, hed⟩ := hc
    obtain ⟨h1, h2, Z, g, h3⟩ := h
    refine wp_region_any hm ?_
    refine hoist hok (fun ⟨a, w, hq⟩ => hq) (fun c a w hq => hq) ops.size _ a _ (by simp) ?_
    have e1 : (addA ex ops).toList = addE ex ops.toList 0 := by simp [addA]
    have hs := addA_size ex ops
    rw [← e1] at hrun hed
    obtain ⟨i1, bsF, k1, k2, k3, k4, k5, k6, k7, k8⟩ := regT_seg (ops := addA ex ops) (ns := needs (addA ex ops).toList []) (i0 := 0) hT hga h1 _ 0 rfl (Nat.zero_le _) (Nat.le_refl _) [] st' ⟨trivial, h1.MB, fun e he => by simp at he, fun _ _ _ _ he => by simp at he⟩ hrun
    refine reg_any (ops := addA ex ops) (cx := cx) (Q := QO cx E (.nrm st')) hT hga hW hed (stF := st') (fun Z g a w hr hn hs => ⟨hn, hs, Z, g, hr⟩) ops.size (Array.replicate ops.size false) 0 0 i1 st bsF a _ Z g (by simp [hs]) (fun k hk => ?_) (by rw [hs, cnt_zero]; exact Nat.le_refl _) (fun k hk => by omega) (fun k _ => Nat.zero_testBit k) (fun k hk => by rw [Nat.zero_testBit] at hk; simp at hk) k1 h1 k2 (fun e he => ⟨(k4 e he).1, (k4 e he).2.1⟩) k5 k7 k8 ?_ h2
    · rw [Nat.zero_testBit]
      rw [hs] at hk
      simp [Array.getD_eq_getD_getElem?, hk]
    · rw [view_none fun e _ => Nat.zero_testBit _]
      exact h3.world rfl rfl rfl rfl
theorem hoist_of (hT : TTok P E) (hga : GAok P E) (hm : P.follows .mixedOrders = true) {c : Code} {id : Nat} {ex : List (Nat × Nat)} (h : c = .region id (opsOf c) true) : RegSem P E c (hoistT E (opsOf c) ex) := by
  rw [h]
  exact hoist_sem hT hga hm
end
end Go.Av
namespace Go.Av
open Go.RowKit (Below)
theorem cnt_low : ∀ n i, cnt n (2 ^ i - 1) = n - i
  | 0, i => by simp [cnt]
  | n + 1, i => by
    rw [cnt, cnt_low n i, low_bits]
    by_cases h : n < i
    · simp only [h, decide_true]; omega
    · simp only [h, decide_false]; omega
section
variable {P : Program} {E : En} {ops : Array Oper} {cx : Cx} {Q : Exit → Act → World → Prop}
theorem tail_any (hed : edgesOk ops.toList 0 = true) : ∀ (n i : Nat) (listed : Array Bool) (fuel : Nat) (a : Act) (w : World), i + n = ops.size → listed.size = ops.size → (∀ k, k < ops.size → listed.getD k false = decide (k < i)) → n ≤ fuel →
    (∀ k, i < k → k < ops.size → ∃ o e, ops[k]? = some o ∧ e ∈ o.after ∧ bindsAny e = true ∧ e.on = k - 1) → wpOps P ops Q (List.range' i n) a w → wpAny P .any ops Q fuel listed a w
  | 0, i, listed, fuel, a, w, hi, hls, hl, hf, hch, h => by
    have hr : Region.ready .any ops listed = [] := List.eq_nil_iff_forall_not_mem.2 fun k hk => by
      obtain ⟨h0, o, ho, _⟩ := mem_ready.1 hk
      have hlt : k < ops.size := (Array.getElem?_eq_some_iff.1 ho).1
      have := hl k hlt
      rw [decide_eq_true (by omega)] at this
      simp [Array.getD_eq_getD_getElem?, hls, hlt] at h0 this
      rw [h0] at this
      simp at this
    have h : Q .normal a w := h
    cases fuel with
    | zero => exact ⟨hr, h⟩
    | succ fuel => exact ⟨fun _ => h, fun k hk => by rw [hr] at hk; simp at hk⟩
  | n + 1, i, listed, fuel, a, w, hi, hls, hl, hf, hch, h => by
    obtain ⟨fuel, rfl⟩ : ∃ f, fuel = f + 1 := ⟨fuel - 1, by omega⟩
    rw [List.range'_succ, wpOps_cons] at h
    have hil : i < ops.size := by omega
    have hri : i ∈ Region.ready .any ops listed := by
      refine mem_ready.2 ⟨?_, ops[i], by simp [hil], fun e he hb => ?_⟩
      · have := hl i hil
        rw [decide_eq_false (by omega)] at this
        simp [Array.getD_eq_getD_getElem?, hls, hil] at this ⊢
        exact this
      · have := edgesOk_spec ops.toList 0 hed i ops[i] (by rw [Array.getElem?_toList]; simp [hil]) e (Array.mem_toList_iff.2 he) hb
        rw [hl e.on (by omega)]
        exact decide_eq_true (by omega)
    refine ⟨fun h0 => by rw [h0] at hri; simp at hri, fun k hk => ?_⟩
    have hki : k = i := by
      obtain ⟨h0, o, ho, hall⟩ := mem_ready.1 hk
      have hlt : k < ops.size := (Array.getElem?_eq_some_iff.1 ho).1
      have hge : i ≤ k := by
        have := hl k hlt
        rcases Nat.lt_or_ge k i with hh | hh
        · rw [decide_eq_true hh] at this
          simp [Array.getD_eq_getD_getElem?, hls, hlt] at h0 this
          rw [h0] at this
          simp at this
        · exact hh
      rcases Nat.lt_or_ge i k with hh | hh
      · obtain ⟨o', e, ho', he, hb, hon⟩ := hch k hh hlt
        rw [ho] at ho'
        cases ho'
        have := hall e he hb
        rw [hon, hl (k - 1) (by omega)] at this
        have := of_decide_eq_true this
        omega
      · omega
    subst hki
    refine wpOp_mono (fun a' w' h' => tail_any hed n (k + 1) _ fuel a' w' (by omega) (by simpa using hls) (fun j hj => ?_) (by omega) (fun j hj hj2 => hch j (by omega) hj2) h') h
    by_cases e : k = j
    · subst e
      simp [Array.getD_eq_getD_getElem?, hls, hj]
    · rw [getD_set_ne false e, hl j hj]
      congr 1
      exact propext ⟨fun h => by omega, fun h => by omega⟩
theorem reg_pre (hed : edgesOk ops.toList 0 = true) {i1 : Nat} (hi1 : i1 < ops.size) {base : St} {bsF : Bd} (hstep : ∀ j, j < i1 → StepOK P E ops (needs ops.toList []) base bsF 0 j)
    (hneed : ∀ j, j < i1 → ((needs ops.toList []).getD i1 0).testBit j = true) (hch : ∀ k, i1 < k → k < ops.size → ∃ o e, ops[k]? = some o ∧ e ∈ o.after ∧ bindsAny e = true ∧ e.on = k - 1)
    (hend : ∀ (a : Act) (w : World) (Z : Nat → Prop) (g : Gh), Rel cx Z g (view base (2 ^ i1 - 1) bsF) a w → Fit cx E a → wpOps P ops Q (List.range' i1 (ops.size - i1)) a w) :
    ∀ (fuel : Nat) (listed : Array Bool) (S : Nat) (a : Act) (w : World) (Z : Nat → Prop) (g : Gh), listed.size = ops.size → (∀ k, k < ops.size → listed.getD k false = S.testBit k) → (∀ k, i1 ≤ k → S.testBit k = false) → cnt ops.size S ≤ fuel →
      (∀ k, S.testBit k = true → ∀ b, ((needs ops.toList []).getD k 0).testBit b = true → S.testBit b = true) → Rel cx Z g (view base S bsF) a w → Fit cx E a → wpAny P .any ops Q fuel listed a w := by
  have hlen : (needs ops.toList []).length = ops.size := by rw [needs_len]; simp
  have full : ∀ (fuel : Nat) (listed : Array Bool) (S : Nat) (a : Act) (w : World) (Z : Nat → Prop) (g : Gh), listed.size = ops.size → (∀ k, k < ops.size → listed.getD k false = S.testBit k) → (∀ k, i1 ≤ k → S.testBit k = false) → cnt ops.size S ≤ fuel → (∀ k, k < i1 → S.testBit k = true) → Rel cx Z g (view base S bsF) a w → Fit cx E a → wpAny P .any ops Q fuel listed a w := by
    intro fuel listed S a w Z g hls hS hhi hfuel hlo h hsz
    have e : S = 2 ^ i1 - 1 := by
      apply Nat.eq_of_testBit_eq
      intro k
      rw [low_bits]
      by_cases hk : k < i1
      · simp [hk, hlo k hk]
      · simp [hk, hhi k (by omega)]
    subst e
    rw [cnt_low] at hfuel
    exact tail_any hed (ops.size - i1) i1 listed fuel a w (by omega) hls (fun k hk => by rw [hS k hk, low_bits]) hfuel hch (hend a w Z g h hsz)
  intro fuel
  induction fuel with
  | zero =>
    intro listed S a w Z g hls hS hhi hfuel hcl h hsz
    have := cnt_all _ _ (Nat.le_zero.1 hfuel) i1 hi1
    rw [hhi i1 (Nat.le_refl _)] at this
    simp at this
  | succ fuel ih =>
    intro listed S a w Z g hls hS hhi hfuel hcl h hsz
    by_cases hlo : ∀ k, k < i1 → S.testBit k = true
    · exact full (fuel + 1) listed S a w Z g hls hS hhi hfuel hlo h hsz
    have hmask : ∀ j, j ∈ Region.ready .any ops listed → j < ops.size ∧ S.testBit j = false ∧ ∀ b, ((needs ops.toList []).getD j 0).testBit b = true → S.testBit b = true := by
      intro j hj
      obtain ⟨hj0, o, ho, he⟩ := mem_ready.1 hj
      have hlt : j < ops.size := (Array.getElem?_eq_some_iff.1 ho).1
      refine ⟨hlt, ?_, fun b hbit => ?_⟩
      · rw [← hS j hlt]
        simp [Array.getD_eq_getD_getElem?, hls, hlt] at hj0 ⊢
        exact hj0
      · obtain ⟨e, h1, h2, h3⟩ := needs_bit ops.toList [] j o b (by rw [Array.getElem?_toList]; exact ho) (by simpa using hbit)
        have hl := he e (Array.mem_toList_iff.1 h1) h2
        have hon : e.on < ops.size := by
          rcases Nat.lt_or_ge e.on ops.size with hh | hh
          · exact hh
          · simp [Array.getD_eq_getD_getElem?, hls, hh] at hl
        rw [hS _ hon] at hl
        rcases h3 with h3 | ⟨_, h3⟩
        · rw [← h3]; exact hl
        · exact hcl _ hl b h3
    have hnext : ∀ k, k < ops.size → S.testBit k = false → ∃ j, j ∈ Region.ready .any ops listed := by
      intro k
      induction k using Nat.strongRecOn with
      | _ k ihk =>
        intro hk hkS
        obtain ⟨o, ho⟩ : ∃ o, ops[k]? = some o := ⟨ops[k], by simp [hk]⟩
        by_cases hall : ∀ e ∈ o.after, Region.binds .any e = true → listed.getD e.on false = true
        · refine ⟨k, mem_ready.2 ⟨?_, o, ho, hall⟩⟩
          have := hS k hk
          rw [hkS] at this
          simp [Array.getD_eq_getD_getElem?, hls, hk] at this ⊢
          exact this
        · simp only [Classical.not_forall] at hall
          obtain ⟨e, he, hbe, hnl⟩ := hall
          have hon := edgesOk_spec ops.toList 0 hed k o (by rw [Array.getElem?_toList]; exact ho) e (Array.mem_toList_iff.2 he) hbe
          rw [Nat.zero_add] at hon
          have hon' : e.on < ops.size := Nat.lt_trans hon hk
          refine ihk e.on hon hon' ?_
          rw [← hS _ hon']
          simpa using hnl
    have hlt1 : ∀ j, j ∈ Region.ready .any ops listed → j < i1 := fun j hj => by
      obtain ⟨m1, m2, m3⟩ := hmask j hj
      rcases Nat.lt_or_ge j i1 with hh | hh
      · exact hh
      · exfalso
        apply hlo
        rcases Nat.lt_or_ge i1 j with h2 | h2
        ·
          obtain ⟨o, e, ho, he, hb, hon⟩ := hch j h2 m1
          obtain ⟨_, o', ho', hall⟩ := mem_ready.1 hj
          rw [ho] at ho'
          cases ho'
          have := hall e he hb
          rw [hon, hS _ (by omega), hhi _ (by omega)] at this
          simp at this
        · have : j = i1 := by omega
          subst this
          exact fun k hk => m3 k (hneed k hk)
    refine ⟨fun h0 => ?_, fun j hj => ?_⟩
    · obtain ⟨j, hj⟩ := hnext i1 hi1 (hhi i1 (Nat.le_refl _))
      rw [h0] at hj
      simp at hj
    · obtain ⟨m1, m2, m3⟩ := hmask j hj
      have hj1 := hlt1 j hj
      refine hstep j hj1 cx S a w Z g _ _ (fun k _ hk hb => ?_) m2 h hsz fun Z' g' a' w' hr' hsz' => ?_
      · refine m3 k ?_
        rw [List.getD_eq_getElem?_getD] at hb ⊢
        rw [List.getElem?_eq_getElem (by rw [hlen]; omega)] at hb ⊢
        exact hb
      · refine ih (listed.setIfInBounds j true) (S ||| 2 ^ j) a' w' Z' g' (by simpa using hls) (fun k hk => ?_) (fun k hk => ?_) ?_ (fun k hk b hb => ?_) hr' hsz'
        · rw [testBit_or_pow]
          by_cases e : j = k
          · subst e
            simp [Array.getD_eq_getD_getElem?, hls, hk]
          · rw [getD_set_ne false e, hS k hk]
            simp [e]
        · rw [testBit_or_pow, hhi k hk]
          simp; omega
        · have := cnt_set ops.size j S m2
          rw [if_pos m1] at this
          omega
        · rw [testBit_or_pow] at hk ⊢
          simp only [Bool.or_eq_true, decide_eq_true_eq] at hk ⊢
          rcases hk with hk | rfl
          · exact .inl (hcl k hk b hb)
          · exact .inl (m3 b hb)
end
end Go.Av
namespace Go.Av
open Go.RowKit (Below)
section
variable {P : Program} {w w' : World}
theorem append_in {t t2 ty : TypeId} {e : TypeId} {te : TI} {ats : Array TypeId} {d2 : TypeDesc} (hu : P.underlying t = some (.slice e)) (hTe : TIok P e te) (hu2 : P.underlying t2 = some d2) (hd2 : ∀ k, d2 ≠ .int k) (hat : ats[0]? = some t) (hat2 : ats[1]? = some t2) (hby : 0 < te.bytes)
    {xs : T (.sl e te.ks)} {ys : List (Tl te.ks)} {v0 vy : Value} {F FH : Nat → Prop} {news : List Value} {H : Nat → Nat → Nat → Prop} (hx : Own w (.sl e te.ks) xs v0 F) (hr : NewRows w te.ks ys news H FH) (hl : (Builtin.lenOf vy).run P w = .ok ys.length w)
    (hcl : ∀ w1 : World, w1.heap = w.heap → (Builtin.firstCells te.ks.length ys.length vy).run P w1 = .ok news.toArray w1) (hlt : ∀ q, F q ∨ FH q → q < w.heap.size) (hdj : ∀ q, FH q → ¬ F q) (hbytes : ((els xs).length + ys.length) * te.bytes ≤ big) :
    ∃ v' w' F', (Builtin.append_ ats ty #[v0, vy]).run P w = .ok v' w' ∧ w'.os = w.os ∧ w'.tape = w.tape ∧ w'.output = w.output ∧ w.heap.size ≤ w'.heap.size ∧ (∀ q, q < w.heap.size → ¬ F q → w'.heap[q]? = w.heap[q]?) ∧ (∀ q, F' q → q < w'.heap.size ∧ (F q ∨ FH q ∨ w.heap.size ≤ q)) ∧ v'.oneCell' = true ∧
      Own w' (.sl e te.ks) (cat te.ks (els xs) ys) v' F' := by
  have hbig : (els xs).length + ys.length ≤ big := Nat.le_trans (Nat.le_mul_of_pos_right _ hby) hbytes
  obtain ⟨base, cap, rfl, c1, c2, c3, c4⟩ := hx
  have hnl := hr.len
  by_cases hfit : (els xs).length + ys.length ≤ cap
  · cases base with
    | none =>
      have hcap := c3 rfl
      have hx0 : els xs = [] := List.length_eq_zero_iff.1 (by omega)
      have hy0 : ys = [] := List.length_eq_zero_iff.1 (by omega)
      refine ⟨.slice none 0 0, w, fun _ => False, ?_, rfl, rfl, rfl, Nat.le_refl _, fun _ _ _ => rfl, fun q hq => hq.elim, rfl, ?_⟩
      · rw [hx0, hcap]
        refine append_nil (news := news) hu hTe hu2 hd2 hat hat2 ?_ ?_
        · rw [hy0] at hl; exact hl
        · have := hcl w rfl; rw [hy0] at this; exact this
      · rw [hx0, hy0]
        exact Own_nil _ _
    | some aa =>
      obtain ⟨b, of, cs, el, fr, rfl, n2, n3, n4, n5, G, n6, n7, n8⟩ := c4 _ rfl
      obtain ⟨s1, s2, s3, s4, s5, s6⟩ := setCells_heap b news (of + (els xs).length * te.ks.length) w cs el fr n3
      have hroom : of + (els xs).length * te.ks.length + news.length ≤ cs.size := by
        have := Nat.mul_le_mul_right te.ks.length hfit
        rw [Nat.add_mul] at this
        omega
      refine ⟨.slice (some ⟨b, of, none⟩) ((els xs).length + ys.length) cap, w.setCells b (of + (els xs).length * te.ks.length) news, fun q => F q ∨ FH q, append_fits hu hTe hu2 hd2 hat hat2 hl (hcl w rfl) hfit hr.one (fun j hj => ⟨cs, el, fr, n3, by omega, n4 _ (by omega)⟩), s4, s5, s6, by rw [s3]; exact Nat.le_refl _, fun q _ hq => s2 q fun e => hq (by rw [e]; exact n2), fun q hq => ?_, rfl, ?_⟩
      · rw [s3]
        refine ⟨hlt q hq, ?_⟩
        rcases hq with hq | hq
        · exact .inl hq
        · exact .inr (.inl hq)
      · refine own_cat (w := w) (b0 := b) (F := F) n6 n7 n8 hr (fun q hq => ⟨hdj q hq, fun e => hdj q hq (by rw [e]; exact n2)⟩) s1 (fun q hq => n4 q (by rw [setFrom_size] at hq; exact hq)) (.inl n2) (fun q hq _ => .inl hq) (fun q hq => .inr hq) (fun i j q hq => (n6 i j q hq).2) (fun q hq e => hdj q hq (by rw [e]; exact n2)) (fun q hq h1 _ => s2 q h1) (fun q hq => ?_) (fun q hq => ?_) hfit (by rw [setFrom_size]; exact n5) hbig
        · rw [setFrom_get _ _ _ _ hroom, if_neg (by omega)]
        · rw [setFrom_get _ _ _ _ hroom, if_pos (by omega)]
          congr 1
          omega
  · have hgrow : cap < (els xs).length + ys.length := by omega
    have hge := grownCap_ge w ((els xs).length + ys.length) cap e
    have hnot : ∀ q, F q ∨ FH q → q ≠ w.heap.size := fun q hq e => by
      have := hlt q hq
      omega
    have olds : ∃ (olds : List Value) (b0 : Nat) (cs : Array Value) (of : Nat) (G : Nat → Nat → Nat → Prop), (Builtin.firstCells te.ks.length (els xs).length (.slice base (els xs).length cap)).run P w.drew = .ok olds.toArray w.drew ∧ olds.length = (els xs).length * te.ks.length ∧ (∀ q, q < (els xs).length * te.ks.length → olds[q]? = cs[of + q]?) ∧
        (∀ i j b, G i j b → F b ∧ b ≠ b0) ∧ (∀ i j i' j' b, G i j b → G i' j' b → i = i' ∧ j = j') ∧ (∀ i x, (els xs)[i]? = some x → Ownl w te.ks x 0 (G i) cs (of + i * te.ks.length)) ∧ (∀ q, FH q → q ≠ b0) := by
      cases base with
      | none =>
        have hcap := c3 rfl
        have hx0 : els xs = [] := List.length_eq_zero_iff.1 (by omega)
        refine ⟨[], w.heap.size, #[], 0, fun _ _ _ => False, ?_, by rw [hx0]; simp, fun q hq => by rw [hx0] at hq; simp at hq, fun _ _ _ h => h.elim, fun _ _ _ _ _ h => h.elim, fun i x hi => by rw [hx0] at hi; simp at hi, fun q hq => hnot q (.inr hq)⟩
        exact run_firstCells_none (P := P) w.drew _ _ _ _
      | some aa =>
        obtain ⟨b, of, cs, el, fr, rfl, n2, n3, n4, n5, G, n6, n7, n8⟩ := c4 _ rfl
        have hbound : ∀ q, q < (els xs).length * te.ks.length → of + q < cs.size := fun q hq => by
          have := Nat.mul_le_mul_right te.ks.length c1
          omega
        have hnl' : ∀ q, q < (els xs).length * te.ks.length → ((List.range ((els xs).length * te.ks.length)).map fun q => cs.getD (of + q) undef)[q]? = cs[of + q]? := fun q hq => by
          have := hbound q hq
          simp [hq, this]
        refine ⟨(List.range ((els xs).length * te.ks.length)).map fun q => cs.getD (of + q) undef, b, cs, of, G, ?_, by simp, hnl', n6, n7, n8, fun q hq e => hdj q hq (by rw [e]; exact n2)⟩
        refine run_firstCells_some (P := P) w.drew _ _ ⟨b, of, none⟩ _ _ _ (by simp) fun j v hj => ?_
        have hjl : j < (els xs).length * te.ks.length := by
          rcases Nat.lt_or_ge j ((els xs).length * te.ks.length) with hh | hh
          · exact hh
          · rw [List.getElem?_eq_none (by simpa using hh)] at hj; simp at hj
        rw [hnl' j hjl] at hj
        rw [add_mk]
        have n3' : w.drew.heap[b]? = some (.cells cs el fr) := n3
        simp only [World.cell?, n3']
        exact hj
    obtain ⟨olds, b0, cs, of, G, r1, r2, r3, r4, r5, r6, r7⟩ := olds
    obtain ⟨zs, z1, z2⟩ := append_grows (P := P) (ty := ty) (vx := vy) hu hTe hu2 hd2 hat hat2 hl r1 (hcl w.drew rfl) hgrow hby hbytes
    have hheap : (w.drew.alloc (.cells (olds.toArray ++ news.toArray ++ zs) e (0, 0))).heap = w.heap.push (.cells (olds.toArray ++ news.toArray ++ zs) e (0, 0)) := rfl
    have hsize : (w.drew.alloc (.cells (olds.toArray ++ news.toArray ++ zs) e (0, 0))).heap.size = w.heap.size + 1 := by rw [hheap, Array.size_push]
    have hold : ∀ q, q < w.heap.size → (w.drew.alloc (.cells (olds.toArray ++ news.toArray ++ zs) e (0, 0))).heap[q]? = w.heap[q]? := fun q hq => by rw [hheap, Array.getElem?_push, if_neg (by omega)]
    refine ⟨.slice (some ⟨w.heap.size, 0, none⟩) ((els xs).length + ys.length) (grownCap w ((els xs).length + ys.length) cap e), w.drew.alloc (.cells (olds.toArray ++ news.toArray ++ zs) e (0, 0)), fun q => (F q ∨ FH q) ∨ q = w.heap.size, z2, rfl, rfl, rfl, by rw [hsize]; omega, fun q hq _ => hold q hq, fun q hq => ?_, rfl, ?_⟩
    · rw [hsize]
      rcases hq with hq | rfl
      · refine ⟨by have := hlt q hq; omega, ?_⟩
        rcases hq with hq | hq
        · exact .inl hq
        · exact .inr (.inl hq)
      · exact ⟨by omega, .inr (.inr (Nat.le_refl _))⟩
    · refine own_cat (w := w) (b0 := b0) (F := F) r4 r5 r6 hr (fun q hq => ⟨hdj q hq, r7 q hq⟩) (el := e) (fr := (0, 0)) (cs' := olds.toArray ++ news.toArray ++ zs) (by rw [hheap, Array.getElem?_push, if_pos rfl]) (by simp) (.inr rfl) (fun q hq _ => .inl (.inl hq)) (fun q hq => .inl (.inr hq)) (fun i j q hq => hnot q (.inl (r4 i j q hq).1)) (fun q hq => hnot q (.inr hq)) (fun q hq _ _ => hold q hq) (fun q hq => ?_) (fun q hq => ?_) hge ?_ hbig
      · rw [← r3 q hq, Nat.zero_add, Array.append_assoc, Array.getElem?_append_left (by simp; omega)]
        simp
      · rw [Nat.zero_add, Array.append_assoc, Array.getElem?_append_right (by simp; omega), Array.getElem?_append_left (by simp; omega)]
        simp only [List.size_toArray, r2, Nat.add_sub_cancel_left, List.getElem?_toArray]
      · have e1 : (olds.toArray ++ news.toArray ++ zs).size = olds.length + news.length + zs.size := by simp
        rw [e1, r2, hnl, z1, Nat.zero_add, ← Nat.add_mul, ← Nat.add_mul]
        exact Nat.mul_le_mul_right _ (by omega)
theorem own_hole2 {e : TypeId} {ks : List K} {xs : T (.sl e ks)} {b o l cap : Nat} {F : Nat → Prop} (h : Own w (.sl e ks) xs (.slice (some ⟨b, o, none⟩) l cap) F) {i c : Nat} (hi : i < (els xs).length) {k : K} {y : T k} (hc : cellAt ks (elAt xs i) c = some ⟨k, y⟩) :
    ∃ v Fi cs el fr, w.cell? ⟨b, o + i * ks.length + c, none⟩ = some v ∧ Own w k y v Fi ∧ (∀ q, Fi q → F q ∧ q ≠ b) ∧ F b ∧ l = (els xs).length ∧ w.heap[b]? = some (.cells cs el fr) ∧ o + i * ks.length + c < cs.size ∧ (∀ q, q < cs.size → ¬ (fr.1 ≤ q ∧ q < fr.2)) ∧
      ∀ (w' : World) (v' : Value) (y' : T k) (z : Tl ks) (F' : Nat → Prop) (cs' : Array Value), setAt ks (elAt xs i) c k y' = some z → Own w' k y' v' F' → (∀ q, F' q → F q → Fi q) → w'.heap[b]? = some (.cells cs' el fr) → cs'.size = cs.size → cs'[o + i * ks.length + c]? = some v' → (∀ q, q ≠ o + i * ks.length + c → cs'[q]? = cs[q]?) →
        (∀ q, q < w.heap.size → q ≠ b → F q → ¬ Fi q → w'.heap[q]? = w.heap[q]?) → (∀ q, F q → q < w.heap.size) →
        Own w' (.sl e ks) (List.set (els xs) i z) (.slice (some ⟨b, o, none⟩) l cap) (fun q => (F q ∧ ¬ Fi q) ∨ F' q) := by
  obtain ⟨a', c0, h1, h2, h3, h4, h5⟩ := h
  simp only [Value.slice.injEq] at h1
  obtain ⟨rfl, rfl, rfl⟩ := h1
  obtain ⟨b', o', cs, el, fr, g1, g2, g3, g4, g5, G, g6, g7, g8⟩ := h5 _ rfl
  simp only [Addr.mk.injEq, and_true] at g1
  obtain ⟨rfl, rfl⟩ := g1
  obtain ⟨v, hv1, hv2⟩ := Ownl_cell ks _ 0 (G i) cs _ c k y (g8 i _ (elAt_get xs hi)) hc
  rw [Nat.zero_add] at hv2
  have hin : o + i * ks.length + c < cs.size := by
    rcases Nat.lt_or_ge (o + i * ks.length + c) cs.size with hh | hh
    · exact hh
    · rw [Array.getElem?_eq_none hh] at hv1; simp at hv1
  refine ⟨v, G i c, cs, el, fr, ?_, hv2, fun q hq => g6 i c q hq, g2, rfl, g3, hin, fun q hq => g4 q (Nat.lt_add_right _ hq), fun w' v' y' z F' cs' hz ho hF' hb' hs' hv' hcs' hw hlt => ?_⟩
  · simp only [World.cell?, g3, Option.isSome_none, Bool.false_eq_true, if_false]
    exact hv1
  · have hlen : (els (e := e) (ks := ks) (List.set (els xs) i z)).length = (els xs).length := List.length_set ..
    have hbG : ¬ G i c b := fun hh => (g6 i c b hh).2 rfl
    have hcl := setAt_lt _ _ _ _ _ _ hz
    refine ⟨_, cap, by rw [hlen], by rw [hlen]; exact h2, by rw [hlen]; exact h3, h4, fun a'' ha'' => ?_⟩
    simp only [Option.some.injEq] at ha''
    subst ha''
    refine ⟨b, o, cs', el, fr, rfl, .inl ⟨g2, hbG⟩, hb', by rw [hs']; exact g4, by rw [hs']; exact g5, fun i' j' q => if i' = i ∧ j' = c then F' q else G i' j' q, fun i' j' q hq => ?_, fun i1 j1 i2 j2 q hq1 hq2 => ?_, fun i' x hx => ?_⟩
    · dsimp only at hq
      split at hq
      · refine ⟨.inr hq, fun e => ?_⟩
        subst e
        exact hbG (hF' q hq g2)
      · rename_i hne
        refine ⟨.inl ⟨(g6 i' j' q hq).1, fun hh => hne ?_⟩, (g6 i' j' q hq).2⟩
        exact g7 i' j' i c q hq hh
    · dsimp only at hq1 hq2
      have cross : ∀ i1 j1, ¬ (i1 = i ∧ j1 = c) → G i1 j1 q → F' q → False := fun i1 j1 hne hG hF => by
        exact hne (g7 i1 j1 i c q hG (hF' q hF (g6 i1 j1 q hG).1))
      by_cases e1 : i1 = i ∧ j1 = c
      · rw [if_pos e1] at hq1
        by_cases e2 : i2 = i ∧ j2 = c
        · exact ⟨e1.1.trans e2.1.symm, e1.2.trans e2.2.symm⟩
        · rw [if_neg e2] at hq2; exact (cross i2 j2 e2 hq2 hq1).elim
      · rw [if_neg e1] at hq1
        by_cases e2 : i2 = i ∧ j2 = c
        · rw [if_pos e2] at hq2; exact (cross i1 j1 e1 hq1 hq2).elim
        · rw [if_neg e2] at hq2; exact g7 _ _ _ _ q hq1 hq2
    · have hx' : (List.set (els xs) i z)[i']? = some x := hx
      rw [List.getElem?_set] at hx'
      by_cases ei : i = i'
      · subst ei
        rw [if_pos rfl, if_pos hi] at hx'
        simp only [Option.some.injEq] at hx'
        subst hx'
        refine Ownl_set ks (elAt xs i) c k y' z 0 (G i) _ F' cs cs' _ v' hz ho hv' (fun q hq hne => hcs' _ (by omega)) (fun q p hne hp => ?_) (fun p hp => ?_) (fun q p hne hp _ => ?_) (g8 i _ (elAt_get xs hi))
        · show (if i = i ∧ q = c then F' p else G i q p)
          rw [if_neg (fun e => hne (by omega))]; exact hp
        · show (if i = i ∧ 0 + c = c then F' p else G i (0 + c) p)
          rw [if_pos ⟨rfl, by omega⟩]; exact hp
        · exact hw p (hlt p (g6 i q p hp).1) (g6 i q p hp).2 (g6 i q p hp).1 fun hh => hne (by have := (g7 i q i c p hp hh).2; omega)
      · rw [if_neg ei] at hx'
        have hil' : i' < (els xs).length := (List.getElem?_eq_some_iff.1 hx').1
        refine Ownl_move ks x 0 (G i') _ cs cs' _ _ (fun q hq => hcs' _ ?_) (fun j q hq => ?_) (fun j q hq _ => ?_) (g8 i' x hx')
        · intro he
          have e1 : i' * ks.length + q = i * ks.length + c := by omega
          rcases Nat.lt_or_ge i i' with hh | hh
          · have := Nat.mul_le_mul_right ks.length (show i + 1 ≤ i' from hh)
            rw [Nat.add_mul, Nat.one_mul] at this; omega
          · have := Nat.mul_le_mul_right ks.length (show i' + 1 ≤ i by omega)
            rw [Nat.add_mul, Nat.one_mul] at this; omega
        · show (if i' = i ∧ j = c then F' q else G i' j q)
          rw [if_neg (fun e => ei e.1.symm)]; exact hq
        · exact hw q (hlt q (g6 i' j q hq).1) (g6 i' j q hq).2 (g6 i' j q hq).1 fun hh => ei (g7 i' j i c q hq hh).1.symm
end
end Go.Av
namespace Go.Av
open Go.RowKit (Below)
def idxIs (i : Int) (len n : Nat) : Bool := idxOk i len && Nat.beq i.toNat n
def atB {α : Type} (i : Int) (xs : List α) (n : Int) : Bool := idxIs i xs.length n.toNat
def appEnd (dA dI dF : Nat) (st : St) : St := ((st.bindT dA (.v .dead, none)).bindT dI (.v .dead, none)).bindT dF (.v .dead, none)
def appElT (E : En) (v : St) (t t2 : Nat) (x y : Operand) (tI : Nat) (b : Nat) (i : Operand) (tF f tS dA dI dF : Nat) : Tr St :=
  Tr.ofO (E.ti t) fun ti => Tr.ofO (E.sl t) fun te => Tr.ofO (E.sl tI) fun tn => Tr.ofO (E.ti tF) fun tf => Tr.ofO (fld tf.flds f) fun p => Tr.ofO (E.ti tS) fun ts =>
  Tr.ofO (v.get y) fun ty => Tr.ofO (v.get i) fun tv => Tr.ofO tv.int? fun pi =>
  match v.get x, v.get (.tmp b) with
  | some (.v (.pref r j s m n q)), some (.v (.ref r' j' s')) =>
    Tr.ofO (v.news ti.elem te.ks ty) fun w => (match w.1.cell r j with
      | some ⟨s1, m1, .own (.sl e ks) xs⟩ => Tr.ofO (cellAt ks (elAt xs n) q) fun c => Tr.ofO (castK c.1 (.sl ti.elem te.ks) c.2) fun y0 => Tr.ofO (setAt ks (elAt xs n) q (.sl ti.elem te.ks) (cat te.ks (els y0) w.2)) fun z =>
        bif (Nat.beq r r' && (Nat.beq j j' && (Nat.beq s s' && (Nat.beq s1 s && Nat.beq m1 m)))) && ((Nat.beq p.1 q && (tf.agg && (Nat.beq ks.length tn.ks.length && (Nat.beq ts.ks.length 1 && (Nat.blt 0 te.bytes && (E.str t2 || (E.sl t2).isSome)))))))
        then .need (Nat.ble (((els y0).length + w.2.length) * te.bytes) big) (.need (idxIs pi.2 (els xs).length n)
          (.ret (appEnd dA dI dF (w.1.setCell r j ⟨s, m + 1, .own (.sl e ks) (List.set (els xs) n z)⟩))))
        else .fail
      | _ => .fail)
  | _, _ => .fail
def neTmp (d : Nat) : Operand → Bool
  | .tmp t => !Nat.beq t d
  | _ => true
theorem neTmp_ne {d : Nat} {x : Operand} (h : neTmp d x = true) : ∀ d', some d = some d' → x ≠ .tmp d' := by
  rintro d' e rfl
  cases e
  simp only [neTmp, Bool.not_eq_true'] at h
  exact Nat.ne_of_beq_eq_false h rfl
section
variable {P : Program} {E : En} {cx : Cx} {Z : Nat → Prop} {g : Gh} {st v : St} {a : Act} {w : World}
theorem eval_put_self {a : Act} {d : Nat} {v : Value} (hd : d < a.tmps.size) : (a.put (some d) v).eval (.tmp d) = v := by
  simp [Act.put, Act.eval, Array.getD_eq_getD_getElem?, hd]
theorem get_tm {st st' : St} (h : st'.tm = st.tm) (o : Operand) : st'.get o = st.get o := by
  cases o with
  | tmp t =>
    show st'.tv t = st.tv t
    unfold St.tv
    rw [h]
  | _ => rfl
theorem appEl_step (hT : TTok P E) (h : Rel cx Z g v a w) (hn : NoMay v) (hsz : Fit cx E a) {ops : Array Oper} {k0 : Nat} {o0 o1 o2 o3 : Oper} (h0 : ops[k0]? = some o0) (h1 : ops[k0 + 1]? = some o1) (h2 : ops[k0 + 2]? = some o2) (h3 : ops[k0 + 3]? = some o3)
    (g0 : o0.guard = none) (g1 : o1.guard = none) (g2 : o2.guard = none) (g3 : o3.guard = none) {dA dI dF : Nat} (d0 : o0.dst = some dA) (d1 : o1.dst = some dI) (d2 : o2.dst = some dF) (d3 : o3.dst = none) (b0 : E.dB dA = true) (b1 : E.dB dI = true) (b2 : E.dB dF = true)
    {c : Call} (p0 : o0.op = .call c) (hcal : c.callee = .builtin .append) {x y : Operand} (hargs : c.args.toList = [x, y]) {t t2 : Nat} {tys : List Nat} (hts : c.argTypes.toList = t :: t2 :: tys)
    {tI b : Nat} {i : Operand} (p1 : o1.op = .indexAddr tI (.tmp b) i) {tF f : Nat} (p2 : o2.op = .fieldAddr tF (.tmp dI) f) {tS : Nat} (p3 : o3.op = .store tS (.tmp dF) (.tmp dA))
    (n1 : neTmp dA (.tmp b) = true) (n2 : neTmp dA i = true) (n3 : Nat.beq dA dI = false) (n4 : Nat.beq dA dF = false)
    {st' : St} (hrun : (appElT E v t t2 x y tI b i tF f tS dA dI dF).run = some st') :
    wpOps P ops (QO cx E (.nrm st')) [k0, k0 + 1, k0 + 2, k0 + 3] a w := by
  have hc := hn.cons.cons
  unfold appElT at hrun
  obtain ⟨ti, hti, hrun⟩ := Tr.run_ofO hrun
  obtain ⟨te, hte, hrun⟩ := Tr.run_ofO hrun
  obtain ⟨tn, htn, hrun⟩ := Tr.run_ofO hrun
  obtain ⟨tf, htf, hrun⟩ := Tr.run_ofO hrun
  obtain ⟨p, hp, hrun⟩ := Tr.run_ofO hrun
  obtain ⟨ts, hts', hrun⟩ := Tr.run_ofO hrun
  obtain ⟨ty, hy, hrun⟩ := Tr.run_ofO hrun
  obtain ⟨tv, hi, hrun⟩ := Tr.run_ofO hrun
  obtain ⟨pi, hpi, hrun⟩ := Tr.run_ofO hrun
  split at hrun
  rotate_left
  · simp [Tr.run] at hrun
  rename_i r j s m n q r' j' s' hx hb
  obtain ⟨⟨st2, ys⟩, hnw, hrun⟩ := Tr.run_ofO hrun
  simp only at hrun
  split at hrun
  rotate_left
  · simp [Tr.run] at hrun
  rename_i s1 m1 e ks xs hcell
  obtain ⟨⟨ck, cy⟩, hca, hrun⟩ := Tr.run_ofO hrun
  obtain ⟨y0, hy0, hrun⟩ := Tr.run_ofO hrun
  obtain ⟨z, hz, hrun⟩ := Tr.run_ofO hrun
  simp only at hy0 hz hrun
  generalize hcond : ((Nat.beq r r' && (Nat.beq j j' && (Nat.beq s s' && (Nat.beq s1 s && Nat.beq m1 m)))) && ((Nat.beq p.1 q && (tf.agg && (Nat.beq ks.length tn.ks.length && (Nat.beq ts.ks.length 1 && (Nat.blt 0 te.bytes && (E.str t2 || (E.sl t2).isSome)))))))) = cond at hrun
  cases cond with
  | false => simp [Tr.run] at hrun
  | true =>
  simp only [cond_true] at hrun
  obtain ⟨hble, hrun⟩ := Tr.run_need hrun
  obtain ⟨hidx, hrun⟩ := Tr.run_need hrun
  simp only [Tr.run, Option.some.injEq] at hrun
  subst hrun
  simp only [Bool.and_eq_true] at hcond
  obtain ⟨⟨c1, c2, c3, c4, c5⟩, c6, hag, c7, c8, hby, hstr⟩ := hcond
  have c1 := beq_eq c1; have c2 := beq_eq c2; have c3 := beq_eq c3; have c4 := beq_eq c4; have c5 := beq_eq c5; have c6 := beq_eq c6; have c7 := beq_eq c7; have c8 := beq_eq c8
  subst c1; subst c2; subst c3; subst c4; subst c5
  have hby : 0 < te.bytes := Nat.lt_of_succ_le (Nat.le_of_ble_eq_true hby)
  have hbytes : ((els y0).length + ys.length) * te.bytes ≤ big := Nat.le_of_ble_eq_true hble
  obtain ⟨rfl, hy0'⟩ := castK_some hy0
  simp only at hy0'
  subst hy0'
  obtain ⟨ks0, q1, q2, q3, q4⟩ := sl_ti hT hte hti
  have hTe := hT _ _ q4
  obtain ⟨tt, ks1, t1, _, _, _, hu⟩ := sl_desc hT hte
  rw [hti] at t1
  simp only [Option.some.injEq] at t1
  subst t1
  obtain ⟨dd2, hu2, hd2⟩ : ∃ d2, P.underlying t2 = some d2 ∧ ∀ k, d2 ≠ .int k := by
    rw [Bool.or_eq_true] at hstr
    rcases hstr with h2 | h2
    · exact ⟨_, str_desc hT h2, fun _ h => by simp at h⟩
    · obtain ⟨te2, h2⟩ := Option.isSome_iff_exists.1 h2
      obtain ⟨_, _, _, _, _, _, hu2⟩ := sl_desc hT h2
      exact ⟨_, hu2, fun _ h => by simp at h⟩
  obtain ⟨tt2, ks2, u1, u2, u3, u4, huI⟩ := sl_desc hT htn
  have hsI := fun w => run_sizeOf' (hT _ tn u4) (P := P) w
  obtain ⟨fs, fi, huF, f1, f2, f3, info, f4, f5⟩ := desc_struct hT htf (o := p.1) (u := p.2) hp hag
  obtain ⟨gg, news, H, FH, mm1, mm2⟩ := news_rel (P := P) h (get_rel h hc hy) hnw
  have htm : st2.tm = v.tm := mm2.tm
  have hn2 : NoMay st2 := fun t tv ht => hn t tv (by rw [← htm]; exact ht)
  have hc2 := hn2.cons.cons
  have rx := get_rel mm1 hc2 (show st2.get x = _ by rw [get_tm htm]; exact hx)
  have rb := get_rel mm1 hc2 (show st2.get (.tmp b) = _ by rw [get_tm htm]; exact hb)
  have ei : a.eval i = .int pi.1 pi.2 := (int?_rel (get_rel h hc hi) (show tv.int? = some (pi.1, pi.2) from hpi)).1
  obtain ⟨cc, x1, x2, x3, x4⟩ := rx
  rw [hcell] at x1
  cases x1
  obtain ⟨e', ks', xs', x5, x6, x7, B, O, L, C, x8, x9⟩ := x4 rfl rfl
  simp only [RV.own.injEq, K.sl.injEq] at x5
  obtain ⟨⟨rfl, rfl⟩, x5⟩ := x5
  cases x5
  obtain ⟨cc, y1, y2, y3⟩ := rb
  rw [hcell] at y1
  cases y1
  have eb : a.eval (.tmp b) = .slice (some ⟨B, O, none⟩) L C := by rw [y3 rfl, x8]
  have hown : Own w (.sl e ks) xs (gg.cv r j) (gg.fp r j) := mm1.cell r j _ hcell
  rw [x8] at hown
  obtain ⟨vv, Fi, cs, el, fr, z1, z2, z3, z4, z5, z6, z7, z8, z9⟩ := own_hole2 hown x6 hca
  rw [x9] at z1
  cases z1
  have hfpl : ∀ b, gg.fp r j b → b < w.heap.size := fun b hb => (mm1.fp r j b hb).1
  obtain ⟨v', w1, F', r1, r2, r3, r4, r5, r6, r7, r8, r9⟩ := append_in (P := P) (ty := o0.type) (ats := c.argTypes) hu hTe hu2 hd2 (by rw [← Array.getElem?_toList, hts]; rfl) (by rw [← Array.getElem?_toList, hts]; rfl) hby z2 mm2.rows mm2.len mm2.cells
    (fun q hq => by
      rcases hq with hq | hq
      · exact hfpl q (z3 q hq).1
      · exact mm2.free.lt q hq) (fun q hq hF => mm2.free.fp q hq r j (z3 q hF).1) hbytes
  rw [wpOps_cons]
  refine wpOp_wop h0 g0 ?_
  have hargs' : c.args = #[x, y] := by rw [← Array.toArray_toList (xs := c.args), hargs]
  have run0 : (execOp a.eval o0).run P w = .ok (.value v') w1 := by
    simp only [execOp, p0, resolve, hcal, hargs', Sem.run_bind, Sem.run_pure, Result.andThen_ok, invoke, builtin, List.map_toArray, List.map_cons, List.map_nil, r1]
  unfold Oper.wp
  rw [run0, Oper.upon_value, d0]
  rw [wpOps_cons]
  refine wpOp_wop h1 g1 ?_
  simp only [idxIs, Bool.and_eq_true] at hidx
  obtain ⟨i0, i1, i2⟩ := idxOk_spec hidx.1
  have i3 := beq_eq hidx.2
  have run1 : (execOp (a.put (some dA) v').eval o1).run P w1 = .ok (.value (.pointer (some ⟨B, O + n * ks.length, none⟩))) w1 := by
    have := indexAt_run (P := P) (w := w1) huI hsI (b := B) (o := O) (len := L) (cap := C) (k := pi.1) (n := pi.2) i0 (by rw [z5]; exact i1)
    rw [i3, ← c7] at this
    simp only [execOp, p1, Act.eval_put (neTmp_ne n1), Act.eval_put (neTmp_ne n2), eb, ei]
    simp [this]
  unfold Oper.wp
  rw [run1, Oper.upon_value, d1]
  rw [wpOps_cons]
  refine wpOp_wop h2 g2 ?_
  have hsz1 := hsz.put (some dA) v'
  have eI : ((a.put (some dA) v').put (some dI) (.pointer (some ⟨B, O + n * ks.length, none⟩))).eval (.tmp dI) = .pointer (some ⟨B, O + n * ks.length, none⟩) := by
    exact eval_put_self (hsz1.dst b1).1
  have run2 : (execOp ((a.put (some dA) v').put (some dI) (.pointer (some ⟨B, O + n * ks.length, none⟩))).eval o2).run P w1 = .ok (.value (.pointer (some ⟨B, O + n * ks.length + q, none⟩))) w1 := by
    have g4' : P.info? fi.type = some info := by rw [f3]; exact f4
    have hsz : ∀ w, (sizeOf fi.type).run P w = .ok info.size w := fun w => by simp [sizeOf, typeInfo, g4']
    simp [execOp, p2, Instr.fieldAt, run_underlying huF, f1, eI, Instr.sureAddr, fieldPlace, hsz, f5, f2, add_mk, c6]
  unfold Oper.wp
  rw [run2, Oper.upon_value, d2]
  rw [wpOps_cons]
  refine wpOp_wop h3 g3 ?_
  have hsz2 := hsz1.put (some dI) (.pointer (some ⟨B, O + n * ks.length, none⟩))
  generalize ha2 : (a.put (some dA) v').put (some dI) (.pointer (some ⟨B, O + n * ks.length, none⟩)) = a2 at eI run2 hsz2 ⊢
  have eF : (a2.put (some dF) (.pointer (some ⟨B, O + n * ks.length + q, none⟩))).eval (.tmp dF) = .pointer (some ⟨B, O + n * ks.length + q, none⟩) := by
    exact eval_put_self (hsz2.dst b2).1
  have eA : (a2.put (some dF) (.pointer (some ⟨B, O + n * ks.length + q, none⟩))).eval (.tmp dA) = v' := by
    have hne : ∀ d', some dF = some d' → (.tmp dA : Operand) ≠ .tmp d' := fun d' e e2 => by
      cases e; cases e2
      rw [Nat.beq_refl] at n4; simp at n4
    have hne' : ∀ d', some dI = some d' → (.tmp dA : Operand) ≠ .tmp d' := fun d' e e2 => by
      cases e; cases e2
      rw [Nat.beq_refl] at n3; simp at n3
    rw [Act.eval_put hne, ← ha2, Act.eval_put hne']
    exact eval_put_self (hsz.dst b0).1
  have hBw : B < w.heap.size := hfpl B z4
  have hBi : ¬ Fi B := fun hh => (z3 B hh).2 rfl
  have hB1 : w1.heap[B]? = some (.cells cs el fr) := by rw [r6 B hBw hBi]; exact z6
  have hv1 := Own_one r9
  have hst := run_storeAt (P := P) (hT tS ts hts') (w := w1) (b := B) (o := O + n * ks.length + q) (v := v') (vs := [v']) (by rw [hv1.1]) (by rw [c8]; rfl) (fun u hu => by simp at hu; subst hu; exact hv1.2) (fun j hj => by
    simp at hj
    subst hj
    exact ⟨cs, el, fr, hB1, by simpa using z7, z8 _ (by simpa using z7)⟩)
  have run3 : (execOp (a2.put (some dF) (.pointer (some ⟨B, O + n * ks.length + q, none⟩))).eval o3).run P w1 = .ok .skip (w1.setCells B (O + n * ks.length + q) [v']) := by
    simp only [execOp, p3, Sem.run_bind, eF, eA, hst, Result.andThen_ok]
    rfl
  unfold Oper.wp
  rw [run3, Oper.upon_skip, d3]
  obtain ⟨s1', s2', s3', s4', s5', s6'⟩ := setCells_heap B [v'] (O + n * ks.length + q) w1 cs el fr hB1
  generalize hw2 : w1.setCells B (O + n * ks.length + q) [v'] = w2 at s1' s2' s3' s4' s5' s6'
  have hlen : (List.set (els xs) n z).length = (els xs).length := List.length_set ..
  have hFnew : ∀ q, F' q → gg.fp r j q → Fi q := fun q hq hf => by
    rcases (r7 q hq).2 with hh | hh | hh
    · exact hh
    · exact absurd hf (mm2.free.fp q hh r j)
    · have := hfpl q hf; omega
  have hFB : ¬ F' B := fun hh => hBi (hFnew B hh z4)
  have hother : ∀ q, q < w.heap.size → q ≠ B → ¬ Fi q → w2.heap[q]? = w.heap[q]? := fun q hq hne hF => (s2' q hne).trans (r6 q hq hF)
  have hch := mm1.change hcell (c' := ⟨s1, m1 + 1, .own (.sl e ks) (List.set (els xs) n z)⟩) (w' := w2) (v' := gg.cv r j) (F' := fun q => (gg.fp r j q ∧ ¬ Fi q) ∨ F' q) (s4'.trans r2) (s5'.trans r3) (s6'.trans r4) (by rw [s3']; exact r5) (Nat.le_refl _) (Nat.lt_succ_self _)
    (fun _ => rfl) (fun _ e' ks' xs' hx => by
      simp only [RV.own.injEq, K.sl.injEq] at hx
      obtain ⟨⟨rfl, rfl⟩, hx⟩ := hx
      have hx := eq_of_heq hx
      subst hx
      exact ⟨_, rfl, hlen⟩)
    (fun q hq hf _ => hother q hq (fun e => hf (by rw [e]; exact z4)) fun hF => hf (z3 q hF).1)
    (fun q hq => by
      have old : gg.fp r j q → q < w2.heap.size ∧ (cx.F0 q ∨ cx.w0.heap.size ≤ q) ∧ ¬ Z q ∧ (∀ r' j', gg.fp r' j' q → r' = r ∧ j' = j) ∧ (∀ r' R, look st2.rt r' = some R → R.box = true → gg.be r' ≠ q) ∧ ∃ (k : K) (x : T k), RV.own (.sl e ks) (List.set (els xs) n z) = .own k x := fun hq => by
        obtain ⟨k1, k2, k3, _⟩ := mm1.fp r j q hq
        exact ⟨by rw [s3']; exact Nat.lt_of_lt_of_le k1 r5, k2, k3, fun r' j' hh => mm1.disj _ _ _ _ _ hh hq, fun r' R' hR' hx he => (mm1.box r' R' hR' hx).2.2.1 r j (by rw [he]; exact hq), _, _, rfl⟩
      rcases hq with ⟨hq, _⟩ | hq
      · exact old hq
      · obtain ⟨l1, l2⟩ := r7 q hq
        rcases l2 with l2 | l2 | l2
        · exact old (z3 q l2).1
        · exact ⟨by rw [s3']; exact l1, mm2.free.own q l2, mm2.free.z q l2, fun r' j' hh => absurd hh (mm2.free.fp q l2 r' j'), mm2.free.box q l2, _, _, rfl⟩
        · refine ⟨by rw [s3']; exact l1, .inr (Nat.le_trans mm1.size l2), fun hz => by have := (mm1.zone _ hz).1; omega, fun r' j' hh => by have := (mm1.fp r' j' _ hh).1; omega, fun r' R' hR' hb' he => ?_, _, _, rfl⟩
          obtain ⟨_, _, _, _, cs1, el1, fr1, b5, _⟩ := mm1.box r' R' hR' hb'
          rw [he, Array.getElem?_eq_none l2] at b5
          simp at b5)
    (fun R' hR' hx => by
      obtain ⟨_, _, b3, _, cs1, el1, fr1, b5, _, _, b8⟩ := mm1.box r R' hR' hx
      have hlt : gg.be r < w.heap.size := by
        rcases Nat.lt_or_ge (gg.be r) w.heap.size with hh | hh
        · exact hh
        · simp [Array.getElem?_eq_none hh] at b5
      refine ⟨cs1, el1, fr1, cs1, b5, ?_, rfl, fun q hq => ?_⟩
      · rw [hother _ hlt (fun e => b3 r j (by rw [e]; exact z4)) fun hF => b3 r j (z3 _ hF).1]; exact b5
      · rw [b8 q hq]
        by_cases e : q = j
        · subst e; rw [if_pos rfl]
        · rw [if_neg e])
    (fun kp => by
      show Own _ (.sl e ks) (List.set (els xs) n z) (gg.cv r j) _
      rw [x8]
      refine z9 w2 v' _ z F' _ hz (Own.frame _ _ _ _ _ (fun _ hb => hb) (fun q hq _ => s2' q fun e => hFB (by rw [← e]; exact hq)) r9) hFnew s1' (setFrom_size _ _ _) ?_ (fun q hq => ?_) (fun q hq hne hf hF => hother q hq hne hF) hfpl
      · rw [setFrom_get _ _ _ _ (by simpa using Nat.succ_le_of_lt z7), if_pos (by simp)]
        simp
      · rw [setFrom_get _ _ _ _ (by simpa using Nat.succ_le_of_lt z7), if_neg (by simp; omega)])
  obtain ⟨hR, _⟩ := hch
  have hA := hR.bindV (d := dA) (tv := .v .dead) (v := v') (hsz.dst b0) trivial
  have hB := hA.bindV (d := dI) (tv := .v .dead) (v := .pointer (some ⟨B, O + n * ks.length, none⟩)) (hsz1.dst b1) trivial
  rw [ha2] at hB
  have hC := hB.bindV (d := dF) (tv := .v .dead) (v := .pointer (some ⟨B, O + n * ks.length + q, none⟩)) (hsz2.dst b2) trivial
  refine ⟨fun t tv ht => ?_, (hsz2.put _ _).put _ _, Z, _, hC⟩
  have ht : look (appEnd dA dI dF (st2.setCell r j ⟨s1, m1 + 1, .own (.sl e ks) (List.set (els xs) n z)⟩)).tm t = some tv := ht
  unfold appEnd at ht
  rw [bindT_tm] at ht
  split at ht
  · simp only [Option.some.injEq] at ht; subst ht; exact fun h => h
  rw [bindT_tm] at ht
  split at ht
  · simp only [Option.some.injEq] at ht; subst ht; exact fun h => h
  rw [bindT_tm] at ht
  split at ht
  · simp only [Option.some.injEq] at ht; subst ht; exact fun h => h
  rw [setCell_tm] at ht
  exact hn2 t tv ht
end
end Go.Av
namespace Go.Av
open Go.RowKit (Below)
def chained (l : List Oper) (n : Nat) : Bool := (List.range (l.length - n - 1)).all fun k => match l[n + 1 + k]? with | some o => o.after.toList.any fun e => bindsAny e && Nat.beq e.on (n + k) | none => false
def appTail (E : En) (v : St) : List Oper → Tr St
  | [o0, o1, o2, o3] => (match o0.op, o1.op, o2.op, o3.op, o0.dst, o1.dst, o2.dst, o3.dst with
    | .call c, .indexAddr tI (.tmp b) i, .fieldAddr tF (.tmp d1) f, .store tS (.tmp d2) (.tmp d0), some dA, some dI, some dF, none => (match c.callee, c.args.toList, c.argTypes.toList with
      | .builtin .append, [x, y], t :: t2 :: _ =>
        bif (Nat.beq d1 dI && (Nat.beq d2 dF && Nat.beq d0 dA)) && ((E.dB dA && (E.dB dI && E.dB dF)) && ((neTmp dA (.tmp b) && neTmp dA i) && (!Nat.beq dA dI && !Nat.beq dA dF))) then appElT E v t t2 x y tI b i tF f tS dA dI dF else .fail
      | _, _, _ => .fail)
    | _, _, _, _, _, _, _, _ => .fail)
  | _ => .fail
def appPre (ops : List Oper) (n : Nat) : Bool := edgesOk ops 0 && (Nat.beq ops.length (n + 4) && (!hasGuard ops && (!hasGuard (ops.take n) && ((List.range n).all (fun j => ((needs ops []).getD n 0).testBit j) && chained ops n))))
def appT (E : En) (ops : Array Oper) (ex : List (Nat × Nat)) (n : Nat) (st : St) : Tr St :=
  bif hoistOk ops ex && appPre (addE ex ops.toList 0) n then
    (regT E true ((addE ex ops.toList 0).take n) (needs (addE ex ops.toList 0) [] ++ [0]) ((addE ex ops.toList 0).take n) 0 st []).bind fun v => appTail E v ((addE ex ops.toList 0).drop n)
  else .fail
section
variable {P : Program} {E : En}
theorem appTail_step (hT : TTok P E) {cx : Cx} {Z : Nat → Prop} {g : Gh} {v : St} {a : Act} {w : World} (h : Rel cx Z g v a w) (hn : NoMay v) (hsz : Fit cx E a) {ops : Array Oper} {n : Nat} (hng : hasGuard ops.toList = false) (hl : ops.size = n + 4)
    {st' : St} (hrun : (appTail E v (ops.toList.drop n)).run = some st') : wpOps P ops (QO cx E (.nrm st')) [n, n + 1, n + 2, n + 3] a w := by
  have hget : ∀ k, (ops.toList.drop n)[k]? = ops[n + k]? := fun k => by rw [List.getElem?_drop, Array.getElem?_toList]
  generalize hL : ops.toList.drop n = L at hrun hget
  unfold appTail at hrun
  split at hrun
  rotate_left
  · simp [Tr.run] at hrun
  rename_i o0 o1 o2 o3
  have e0 : ops[n]? = some o0 := (hget 0).symm
  have e1 : ops[n + 1]? = some o1 := (hget 1).symm
  have e2 : ops[n + 2]? = some o2 := (hget 2).symm
  have e3 : ops[n + 3]? = some o3 := (hget 3).symm
  have gd : ∀ {k : Nat} {o : Oper}, ops[k]? = some o → o.guard = none := fun {k o} ho => noGuard hng (by rw [Array.getElem?_toList]; exact ho)
  split at hrun
  rotate_left
  · simp [Tr.run] at hrun
  rename_i c tI b i tF d1 f tS d2 d0 dA dI dF p0 p1 p2 p3 q0 q1 q2 q3
  split at hrun
  rotate_left
  · simp [Tr.run] at hrun
  rename_i x y t t2 tys hcal hargs hts
  generalize hc : ((Nat.beq d1 dI && (Nat.beq d2 dF && Nat.beq d0 dA)) && ((E.dB dA && (E.dB dI && E.dB dF)) && ((neTmp dA (.tmp b) && neTmp dA i) && (!Nat.beq dA dI && !Nat.beq dA dF)))) = cond at hrun
  cases cond with
  | false => simp [Tr.run] at hrun
  | true =>
  simp only [cond_true] at hrun
  simp only [Bool.and_eq_true, Bool.not_eq_true'] at hc
  obtain ⟨⟨c1, c2, c3⟩, ⟨b0, b1, b2⟩, ⟨n1, n2⟩, n3, n4⟩ := hc
  have c1 := beq_eq c1; have c2 := beq_eq c2; have c3 := beq_eq c3
  subst c1; subst c2; subst c3
  exact appEl_step hT h hn hsz e0 e1 e2 e3 (gd e0) (gd e1) (gd e2) (gd e3) q0 q1 q2 q3 b0 b1 b2 p0 hcal hargs hts p1 p2 p3 n1 n2 n3 n4 hrun
theorem app_sem (hT : TTok P E) (hga : GAok P E) (hm : P.follows .mixedOrders = true) {id : Nat} {ops : Array Oper} {ex : List (Nat × Nat)} {n : Nat} : RegSem P E (.region id ops true) (appT E ops ex n) := by
  intro cx a w st st' h hrun
  unfold appT at hrun
  cases hc : hoistOk ops ex && appPre (addE ex ops.toList 0) n with
  | false => rw [hc] at hrun; simp [Tr.run] at hrun
  | true =>
  rw [hc] at hrun
  simp only [cond_true] at hrun
  simp only [Bool.and_eq_true] at hc
  obtain ⟨hok, hpre⟩ := hc
  obtain ⟨hn, hsz, Z, g, hr⟩ := h
  refine wp_region_any hm ?_
  refine hoist hok (fun ⟨a, w, hq⟩ => hq) (fun c a w hq => hq) ops.size _ a _ (by simp) ?_
  have e1 : (addA ex ops).toList = addE ex ops.toList 0 := by simp [addA]
  have hs := addA_size ex ops
  rw [← e1] at hrun hpre
  rw [← hs]
  generalize hops : addA ex ops = ops' at hrun hpre ⊢
  rw [hops] at hs
  simp only [appPre, Bool.and_eq_true, Bool.not_eq_true', List.all_eq_true, List.mem_range] at hpre
  obtain ⟨hed, hlen4, hng, hng', hneed, hchain⟩ := hpre
  have hl4 : ops'.size = n + 4 := by have := beq_eq hlen4; simpa using this
  have hi : n < ops'.size := by omega
  have hlen : (needs ops'.toList []).length = ops'.size := by rw [needs_len]; simp
  rw [Tr.run_bind] at hrun
  cases hv : (regT E true (ops'.toList.take n) (needs ops'.toList [] ++ [0]) (ops'.toList.take n) 0 st []).run with
  | none => rw [hv] at hrun; simp at hrun
  | some v =>
  rw [hv] at hrun
  simp only [Option.bind_some] at hrun
  have hopst : (ops'.toList.take n).toArray.toList = ops'.toList.take n := by simp
  have hsize' : (ops'.toList.take n).toArray.size = n := by simp; omega
  have hops' : ∀ j, j < n → (ops'.toList.take n).toArray[j]? = ops'[j]? := fun j hj => by
    rw [← Array.getElem?_toList, hopst, List.getElem?_take, if_pos hj, Array.getElem?_toList]
  have hseg := regT_seg (P := P) (E := E) (ops := (ops'.toList.take n).toArray) (ns := needs ops'.toList [] ++ [0]) (i0 := 0) hT hga (dr := true) hn (ops'.toList.take n) 0 (by simp) (Nat.zero_le _) (Nat.le_refl _) [] v ⟨trivial, hn.MB, fun e he => by simp at he, fun _ _ _ _ he => by simp at he⟩ (by rw [hopst]; exact hv)
  obtain ⟨i1, bsF, k1, k2, k3, k4, k5, k6, k7, k8⟩ := hseg
  replace k5 := k5 (by rw [hopst]; exact hng')
  have hk8 : i1 = n ∧ v = viewAll st bsF := by
    rcases k8 with ⟨e1, e2⟩ | ⟨o', st'', e1, _, e3, _⟩
    · rw [hopst, hng'] at e2
      exact ⟨e1.trans hsize', e2⟩
    · exfalso
      have hi1 : i1 < n := by
        have := (Array.getElem?_eq_some_iff.1 e1).1
        rw [hsize'] at this
        exact this
      have hf := e3 rfl
      unfold fence at hf
      simp only [Bool.and_eq_true, List.all_eq_true, List.mem_range] at hf
      have := hf.2 (ops'.size - i1 - 1) (by rw [List.length_append, hlen]; simp; omega)
      rw [show i1 + 1 + (ops'.size - i1 - 1) = (needs ops'.toList []).length by rw [hlen]; omega] at this
      simp [List.getD] at this
  obtain ⟨rfl, rfl⟩ := hk8
  have hidx : ∀ e ∈ bsF, e.1 < i1 := fun e he => (k4 e he).2.1
  have hNA : NoMay (viewAll st bsF) := fun t tv ht => by
    rw [viewAll_tm k2] at ht
    rcases ht with ⟨i', p, h1, rfl⟩ | h1
    · exact k5 i' t p h1
    · exact hn t tv h1
  refine reg_pre (P := P) (E := E) (cx := cx) (Q := QO cx E (.nrm st')) hed hi (base := st) (bsF := bsF) ?_ hneed ?_ ?_ ops'.size (Array.replicate ops'.size false) 0 a _ Z g (by simp) (fun k hk => ?_) (fun k _ => Nat.zero_testBit k) (by rw [cnt_zero]; exact Nat.le_refl _) (fun k hk => by rw [Nat.zero_testBit] at hk; simp at hk) ?_ hsz
  · intro j hj cx S a w Z g next Q hS hSj hr hsz hnext
    have ho' : ∃ o', ops'[j]? = some o' := ⟨ops'[j]'(by omega), by simp⟩
    obtain ⟨o', ho'⟩ := ho'
    refine wpOp_same ho' (by rw [hops' j hj]; exact ho') (noGuard hng (by rw [Array.getElem?_toList]; exact ho')) ?_
    refine k7 j (Nat.zero_le _) hj cx S a w Z g next Q (fun k h1 h2 h3 => hS k h1 h2 ?_) hSj hr hsz hnext
    have hjl : j < (needs ops'.toList []).length := by rw [hlen]; omega
    rw [List.getD, List.getElem?_append_left hjl] at h3
    exact h3
  · intro k hk1 hk2
    unfold chained at hchain
    have := List.all_eq_true.1 hchain (k - i1 - 1) (List.mem_range.2 (by simp; omega))
    rw [show i1 + 1 + (k - i1 - 1) = k by omega, Array.getElem?_toList] at this
    split at this
    · rename_i o ho
      obtain ⟨e, he, h'⟩ := List.any_eq_true.1 this
      simp only [Bool.and_eq_true] at h'
      exact ⟨o, e, ho, by simpa using he, h'.1, by rw [beq_eq h'.2]; omega⟩
    · simp at this
  · intro a w Z g hr hsz
    have hv' : view st (2 ^ i1 - 1) bsF = viewAll st bsF := (viewAll_of fun e he => by rw [low_bits]; simpa using hidx e he).symm
    rw [hv'] at hr
    have : List.range' i1 (ops'.size - i1) = [i1, i1 + 1, i1 + 2, i1 + 3] := by
      rw [show ops'.size - i1 = 4 by omega]
      rfl
    rw [this]
    exact appTail_step hT hr hNA hsz hng hl4 hrun
  · rw [Nat.zero_testBit]
    simp [Array.getD_eq_getD_getElem?, hk]
  · rw [view_none fun e _ => Nat.zero_testBit _]
    exact hr.world rfl rfl rfl rfl
theorem app_of (hT : TTok P E) (hga : GAok P E) (hm : P.follows .mixedOrders = true) {c : Code} {id : Nat} {ex : List (Nat × Nat)} {n : Nat} (h : c = .region id (opsOf c) true) : RegSem P E c (appT E (opsOf c) ex n) := by
  rw [h]
  exact app_sem hT hga hm
end
end Go.Av
namespace Go.Av
section
variable {α A X Y : Type}
def goL (f : Nat → α → A → Sum A Y) (z : A → Y) : Nat → List α → A → Y
  | _, [], a => z a
  | i, x :: r, a => match f i x a with
    | .inl a' => goL f z (i + 1) r a'
    | .inr y => y
theorem loop_list_from {step : X → Option (Sum X Y)} (xs : List α) (S : Nat → A → X) (f : Nat → α → A → Sum A Y) (z : A → Y) (I : Nat → A → Prop)
    (hs : ∀ i x a, xs[i]? = some x → I i a → step (S i a) = some (match f i x a with | .inl a' => .inl (S (i + 1) a') | .inr y => .inr y))
    (hI : ∀ i x a a', xs[i]? = some x → I i a → f i x a = .inl a' → I (i + 1) a')
    (he : ∀ a, I xs.length a → step (S xs.length a) = some (.inr (z a))) :
    ∀ (ys : List α) (i : Nat) (a : A), i + ys.length = xs.length → ys = xs.drop i → I i a → loopF step (S i a) = some (goL f z i ys a)
  | [], i, a, hl, hy, h => by
    have : i = xs.length := by simpa using hl
    subst this
    exact loopF_end step (he a h)
  | x :: r, i, a, hl, hy, h => by
    have hx : xs[i]? = some x := by
      have := congrArg (·[0]?) hy
      simp only [List.getElem?_cons_zero, List.getElem?_drop, Nat.add_zero] at this
      exact this.symm
    have hr : r = xs.drop (i + 1) := by
      have := congrArg List.tail hy
      simpa using this
    have hst := hs i x a hx h
    cases hf : f i x a with
    | inl a' =>
      rw [hf] at hst
      refine loopF_step step hst ?_
      rw [goL, hf]
      exact loop_list_from xs S f z I hs hI he r (i + 1) a' (by simp only [List.length_cons] at hl; omega) hr (hI i x a a' hx h hf)
    | inr y =>
      rw [hf] at hst
      rw [goL, hf]
      exact loopF_end step hst
theorem loop_inv {step : X → Option (Sum X Y)} (xs : List α) (S : Nat → A → X) (f : Nat → α → A → Sum A Y) (z : A → Y) (I : Nat → A → Prop) {a0 : A} (h0 : I 0 a0)
    (hs : ∀ i x a, xs[i]? = some x → I i a → step (S i a) = some (match f i x a with | .inl a' => .inl (S (i + 1) a') | .inr y => .inr y))
    (hI : ∀ i x a a', xs[i]? = some x → I i a → f i x a = .inl a' → I (i + 1) a')
    (he : ∀ a, I xs.length a → step (S xs.length a) = some (.inr (z a))) : loopF step (S 0 a0) = some (goL f z 0 xs a0) :=
  loop_list_from xs S f z I hs hI he xs 0 a0 (by simp) (by simp) h0
theorem loop_list {step : X → Option (Sum X Y)} (xs : List α) (S : Nat → A → X) (f : Nat → α → A → Sum A Y) (z : A → Y) {a0 : A}
    (hs : ∀ i x a, xs[i]? = some x → step (S i a) = some (match f i x a with | .inl a' => .inl (S (i + 1) a') | .inr y => .inr y))
    (he : ∀ a, step (S xs.length a) = some (.inr (z a))) : loopF step (S 0 a0) = some (goL f z 0 xs a0) :=
  loop_inv xs S f z (fun _ _ => True) trivial (fun i x a h _ => hs i x a h) (fun _ _ _ _ _ _ _ => trivial) fun a _ => he a
theorem loop_post {step : X → Option (Sum X Y)} (xs : List α) (S : Nat → A → X) (z : A → Y) (I : Nat → A → Prop)
    (hs : ∀ i x a, xs[i]? = some x → I i a → ∃ a', step (S i a) = some (.inl (S (i + 1) a')) ∧ I (i + 1) a')
    (he : ∀ a, I xs.length a → step (S xs.length a) = some (.inr (z a))) : ∀ (n k : Nat) (a : A), k + n = xs.length → I k a → ∃ a', I xs.length a' ∧ loopF step (S k a) = some (z a')
  | 0, k, a, hk, h => by
    rw [Nat.add_zero] at hk
    subst hk
    exact ⟨a, h, loopF_end step (he a h)⟩
  | n + 1, k, a, hk, h => by
    have hx : xs[k]? = some (xs[k]'(by omega)) := List.getElem?_eq_getElem (by omega)
    obtain ⟨a1, h1, h2⟩ := hs k _ a hx h
    obtain ⟨a', h3, h4⟩ := loop_post xs S z I hs he n (k + 1) a1 (by omega) h2
    exact ⟨a', h3, loopF_step step h1 h4⟩
theorem goL_all (p : α → Bool) (y : Y) (z : Unit → Y) : ∀ (xs : List α) (i : Nat), goL (fun _ x _ => bif p x then .inl () else .inr y) z i xs () = bif xs.all p then z () else y
  | [], _ => rfl
  | x :: r, i => by
    rw [goL, List.all_cons]
    cases hp : p x with
    | true => simp only [cond_true, Bool.true_and]; exact goL_all p y z r (i + 1)
    | false => rfl
def allI (p : Nat → α → Bool) : Nat → List α → Bool
  | _, [] => true
  | i, x :: r => p i x && allI p (i + 1) r
theorem goL_allI (p : Nat → α → Bool) (y : Y) (z : Unit → Y) : ∀ (xs : List α) (i : Nat), goL (fun i x _ => bif p i x then .inl () else .inr y) z i xs () = bif allI p i xs then z () else y
  | [], _ => rfl
  | x :: r, i => by
    rw [goL, allI]
    cases hp : p i x with
    | true => simp only [cond_true, Bool.true_and]; exact goL_allI p y z r (i + 1)
    | false => rfl
theorem allI_get (p : Nat → α → Bool) : ∀ {xs : List α} {k : Nat}, allI p k xs = true → ∀ {i : Nat} {x : α}, xs[i]? = some x → p (k + i) x = true
  | [], k, _, i, x, hx => by simp at hx
  | y :: r, k, h, i, x, hx => by
    simp only [allI, Bool.and_eq_true] at h
    cases i with
    | zero => simp only [List.getElem?_cons_zero, Option.some.injEq] at hx; subst hx; exact h.1
    | succ i =>
      have := allI_get p h.2 (i := i) (x := x) (by simpa using hx)
      rwa [show k + 1 + i = k + (i + 1) by omega] at this
theorem allI_congr {p q : Nat → α → Bool} : ∀ {xs : List α} {k : Nat}, (∀ i x, xs[i]? = some x → p (k + i) x = q (k + i) x) → allI p k xs = allI q k xs
  | [], _, _ => rfl
  | y :: r, k, h => by
    have ih : allI p (k + 1) r = allI q (k + 1) r := allI_congr fun i x hx => by
      have := h (i + 1) x (by simpa using hx)
      rwa [show k + (i + 1) = k + 1 + i by omega] at this
    have h0 := h 0 y rfl
    rw [Nat.add_zero] at h0
    rw [allI, allI, ih, h0]
theorem goL_fold (f : α → A → A) (z : A → Y) : ∀ (xs : List α) (i : Nat) (a : A), goL (fun _ x a => .inl (f x a)) z i xs a = z (xs.foldl (fun a x => f x a) a)
  | [], _, _ => rfl
  | x :: r, i, a => by rw [goL, List.foldl_cons]; exact goL_fold f z r (i + 1) _
theorem goL_congr {f f' : Nat → α → A → Sum A Y} {z : A → Y} : ∀ (xs : List α) (i : Nat) (a : A), (∀ j x a, xs[j]? = some x → f (i + j) x a = f' (i + j) x a) → goL f z i xs a = goL f' z i xs a
  | [], _, _, _ => rfl
  | x :: r, i, a, h => by
    have h0 := h 0 x a rfl
    rw [Nat.add_zero] at h0
    rw [goL, goL, h0]
    cases f' i x a with
    | inl a' => exact goL_congr r (i + 1) a' fun j y b hy => by have := h (j + 1) y b hy; rw [show i + (j + 1) = i + 1 + j by omega] at this; exact this
    | inr y => rfl
end
def Sm {α : Type} (xs : List α) : Prop := xs.length ≤ 1048576
section
variable {α : Type}
theorem addW1 {i : Nat} (h : i ≤ big) : addW .i64 (i : Int) 1 = ((i + 1 : Nat) : Int) := by
  unfold addW
  rw [IntWalk.i64_in _ (by have : big = 140737488355328 := rfl; omega)]
  omega
theorem addW_in {a b : Int} (h1 : -4611686018427387904 ≤ a + b) (h2 : a + b ≤ 4611686018427387904) : addW .i64 a b = a + b := by
  unfold addW; rw [IntWalk.i64_in _ (by omega)]
theorem subW_in {a b : Int} (h1 : -4611686018427387904 ≤ a - b) (h2 : a - b ≤ 4611686018427387904) : subW .i64 a b = a - b := by
  unfold subW; rw [IntWalk.i64_in _ (by omega)]
theorem lt_of_get {xs : List α} {i : Nat} {x : α} (h : xs[i]? = some x) : i < xs.length := (List.getElem?_eq_some_iff.1 h).1
theorem ltI_in {xs : List α} {i : Nat} {x : α} (h : xs[i]? = some x) : ltI (i : Int) (lenI xs) = true := by
  have := lt_of_get h
  unfold ltI lenI; exact decide_eq_true (by omega)
theorem ltI_out {xs : List α} {n : Nat} (h : xs.length = n) : ltI (n : Int) (lenI xs) = false := by
  unfold ltI lenI; exact decide_eq_false (by omega)
theorem ltI_no {a b : Int} (h : ¬ a < b) : ltI a b = false := decide_eq_false h
theorem ltI_yes {a b : Int} (h : a < b) : ltI a b = true := decide_eq_true h
theorem inB_in {xs : List α} {i : Nat} {x : α} (h : xs[i]? = some x) : inB (i : Int) xs = true := by
  have := lt_of_get h
  unfold inB idxOk leI ltI; rw [decide_eq_true (by omega), decide_eq_true (by omega)]; rfl
theorem inB_lt {xs : List α} {i : Nat} (h : i < xs.length) : inB (i : Int) xs = true := by
  unfold inB idxOk leI ltI; rw [decide_eq_true (by omega), decide_eq_true (by omega)]; rfl
theorem gt_in {xs : List α} {i : Nat} {x : α} (d : α) (h : xs[i]? = some x) : gt d xs (i : Int) = x := by
  simp [gt, List.getD, h]
theorem bytI_in {xs : List UInt8} {i : Nat} {x : UInt8} (h : xs[i]? = some x) : bytI xs (i : Int) = (x.toNat : Int) := by
  simp [bytI, bytAt, List.getD, h]
theorem eqI_refl (n : Int) : eqI n n = true := by simp [eqI]
theorem eqS_refl (s : List UInt8) : eqS s s = true := by simp [eqS]
theorem mkB_in {xs : List α} {b : Nat} (hb : 0 < b) (h : xs.length * b ≤ big) : mkB b (lenI xs) = true := by
  have h1 : ((xs.length : Int) * (b : Int)) ≤ (big : Int) := by exact_mod_cast h
  unfold mkB lenI leI
  rw [decide_eq_true (Int.natCast_nonneg _), decide_eq_true h1]
  exact Nat.ble_eq_true_of_le hb
theorem repI_len {β : Type} {xs : List α} (d : β) : repI d (lenI xs) = List.replicate xs.length d := by simp [repI, lenI]
theorem gt_mid (d : α) {done : List α} {y : α} {r : List α} {i : Nat} (h : done.length = i) : gt d (done ++ y :: r) (i : Int) = y := by
  subst h; simp [gt, List.getD]
theorem stI_mid {done : List α} {x y : α} {r : List α} {i : Nat} (h : done.length = i) : stI (done ++ x :: r) (i : Int) y = done ++ y :: r := by
  subst h; simp [stI, List.set_append]
theorem inB_mid {done : List α} {y : α} {r : List α} {i : Nat} (h : done.length = i) : inB (i : Int) (done ++ y :: r) = true := by
  apply inB_lt; simp; omega
theorem ltI_mid {done : List α} {y : α} {r : List α} {i : Nat} (h : done.length = i) : ltI (i : Int) (lenI (done ++ y :: r)) = true := by
  unfold ltI lenI; exact decide_eq_true (by simp only [List.length_append, List.length_cons]; omega)
theorem drop_get {xs : List α} {i : Nat} {x : α} (h : xs[i]? = some x) : xs.drop i = x :: xs.drop (i + 1) := by
  have hl := lt_of_get h
  rw [List.drop_eq_getElem_cons hl]
  congr 1
  rw [List.getElem?_eq_getElem hl] at h
  exact Option.some.inj h
end
def szR (left : Int) (n : Nat) : Int := if (n : Int) ≤ left then left - n else -1
theorem szR_pos {left : Int} {n : Nat} (h : (n : Int) ≤ left) : szR left n = left - n := if_pos h
theorem szR_neg {left : Int} {n : Nat} (h : ¬ (n : Int) ≤ left) : szR left n = -1 := if_neg h
theorem szR_lt {left : Int} {n : Nat} (h0 : 0 ≤ left) : ltI (szR left n) 0 = !decide ((n : Int) ≤ left) := by
  unfold szR ltI
  split
  · rename_i h; rw [decide_eq_true h]; exact decide_eq_false (by omega)
  · rename_i h; rw [decide_eq_false h]; rfl
theorem szR_len {α : Type} {left : Int} {s : List α} (h0 : 0 ≤ left) (h1 : left ≤ 1048576) (hs : s.length ≤ big) : subW .i64 left (lenI s) = left - (s.length : Int) := by
  have : big = 140737488355328 := rfl
  exact subW_in (by unfold lenI; omega) (by unfold lenI; omega)
def wL {α : Type} (w : α → Nat) (xs : List α) : Nat := xs.length + (xs.map w).sum
def cL {α : Type} (c : α → Nat) (xs : List α) : Nat := (xs.map c).sum
theorem goL_sz {α Y : Type} (w : α → Nat) (y : Y) (z : Int → Y) : ∀ (xs : List α) (i : Nat) (a : Int), 0 ≤ a → goL (fun _ x (a : Int) => bif decide ((w x : Int) ≤ a) then Sum.inl (a - w x) else .inr y) z i xs a = if ((cL w xs : Nat) : Int) ≤ a then z (a - (cL w xs : Nat)) else y
  | [], _, a, h => by simp [goL, cL, h]
  | x :: r, i, a, h => by
    rw [goL]
    by_cases hx : (w x : Int) ≤ a
    · simp only [hx, decide_true, cond_true]
      rw [goL_sz w y z r (i + 1) (a - w x) (by omega)]
      have e : ((cL w (x :: r) : Nat) : Int) = w x + (cL w r : Nat) := by simp [cL]
      rw [e]
      by_cases h2 : ((cL w r : Nat) : Int) ≤ a - w x
      · rw [if_pos h2, if_pos (by omega)]; congr 1; omega
      · rw [if_neg h2, if_neg (by omega)]
    · simp only [hx, decide_false, cond_false]
      rw [if_neg]
      have e : ((cL w (x :: r) : Nat) : Int) = w x + (cL w r : Nat) := by simp [cL]
      rw [e]; omega
theorem cL_drop {α : Type} (c : α → Nat) {xs : List α} {i : Nat} {x : α} (h : xs[i]? = some x) : cL c (xs.drop i) = c x + cL c (xs.drop (i + 1)) := by
  rw [drop_get h]; simp [cL]
theorem cL_mem {α : Type} (c : α → Nat) : ∀ {xs : List α} {i : Nat} {x : α}, xs[i]? = some x → c x ≤ cL c xs
  | [], i, x, h => by simp at h
  | y :: r, 0, x, h => by simp at h; subst h; simp [cL]
  | y :: r, i + 1, x, h => by
    have := cL_mem c (xs := r) (i := i) (x := x) (by simpa using h)
    simp only [cL, List.map_cons, List.sum_cons] at this ⊢
    omega
theorem cL_le {α : Type} {c w : α → Nat} (h : ∀ x, c x ≤ 100 * (w x + 1)) : ∀ (xs : List α), cL c xs ≤ 100 * wL w xs
  | [] => by simp [cL]
  | x :: r => by
    have h1 := h x
    have h2 := cL_le h r
    simp only [cL, wL, List.map_cons, List.sum_cons, List.length_cons] at h2 ⊢
    omega
theorem cL_filter {α : Type} (c : α → Nat) (p : α → Bool) : ∀ (xs : List α), cL c (xs.filter p) ≤ cL c xs
  | [] => Nat.le_refl _
  | x :: r => by
    have ih := cL_filter c p r
    rw [List.filter_cons]
    simp only [cL, List.map_cons, List.sum_cons] at ih ⊢
    split
    · simp only [List.map_cons, List.sum_cons]; omega
    · omega
theorem cL_set {α : Type} (c : α → Nat) (y : α) : ∀ (xs : List α) (i : Nat) (x : α), xs[i]? = some x → c y = c x → cL c (xs.set i y) = cL c xs
  | [], i, x, h, _ => by simp at h
  | z :: r, 0, x, h, hc => by
    simp only [List.getElem?_cons_zero, Option.some.injEq] at h
    subst h
    simp [cL, hc]
  | z :: r, i + 1, x, h, hc => by
    have := cL_set c y r i x (by simpa using h) hc
    simp only [cL, List.set_cons_succ, List.map_cons, List.sum_cons] at this ⊢
    omega
theorem wL_filter {α : Type} (w : α → Nat) (p : α → Bool) (xs : List α) : wL w (xs.filter p) ≤ wL w xs :=
  Nat.add_le_add (List.length_filter_le _ _) (cL_filter w p xs)
theorem wL_stI {α : Type} (w : α → Nat) {xs : List α} {k : Int} {y : α} (d : α) (hk : inB k xs = true) (hw : w y = w (gt d xs k)) : wL w (stI xs k y) = wL w xs := by
  have h0 : 0 ≤ k ∧ k < xs.length := by
    unfold inB idxOk leI ltI at hk
    simpa using hk
  have hx : xs[k.toNat]? = some (gt d xs k) := by
    unfold gt
    rw [List.getD_eq_getElem?_getD, List.getElem?_eq_getElem (by omega)]; rfl
  have h1 : (stI xs k y).length = xs.length := by simp [stI]
  have h2 := cL_set w y xs k.toNat _ hx hw
  show (stI xs k y).length + cL w (xs.set k.toNat y) = xs.length + cL w xs
  rw [h1, h2]
theorem len_le_wL {α : Type} (w : α → Nat) (xs : List α) : xs.length ≤ wL w xs := Nat.le_add_right _ _
theorem mem_le_wL {α : Type} (w : α → Nat) {xs : List α} {y : α} (h : y ∈ xs) : w y ≤ wL w xs := by
  obtain ⟨i, hi⟩ := List.getElem?_of_mem h
  exact Nat.le_trans (cL_mem w hi) (Nat.le_add_left _ _)
def mkL {α : Type} (m : α → Int → α) (c : α → Nat) : List α → Int → List α
  | [], _ => []
  | x :: r, k => m x k :: mkL m c r (k + c x)
theorem goL_mk {α Y : Type} (m : α → Int → α) (c : α → Nat) (z : List α × Int → Y) : ∀ (xs : List α) (i : Nat) (d : List α) (k : Int), goL (fun _ x (a : List α × Int) => Sum.inl (a.1 ++ [m x a.2], a.2 + c x)) z i xs (d, k) = z (d ++ mkL m c xs k, k + (cL c xs : Nat))
  | [], _, d, k => by simp [goL, mkL, cL]
  | x :: r, i, d, k => by
    rw [goL]
    simp only
    rw [goL_mk m c z r (i + 1)]
    congr 1
    have e : ((cL c (x :: r) : Nat) : Int) = c x + (cL c r : Nat) := by simp [cL]
    rw [e]
    simp only [mkL, List.append_assoc, List.singleton_append, Prod.mk.injEq, true_and]
    omega
theorem mkL_len {α : Type} (m : α → Int → α) (c : α → Nat) : ∀ (xs : List α) (k : Int), (mkL m c xs k).length = xs.length
  | [], _ => rfl
  | x :: r, k => by simp [mkL, mkL_len m c r]
theorem mkL_get {α : Type} (m : α → Int → α) (c : α → Nat) : ∀ (xs : List α) (k : Int) (i : Nat) (y : α), (mkL m c xs k)[i]? = some y → ∃ x, xs[i]? = some x ∧ y = m x (k + (cL c (xs.take i) : Nat))
  | [], k, i, y, h => by simp [mkL] at h
  | x :: r, k, 0, y, h => by
    simp only [mkL, List.getElem?_cons_zero, Option.some.injEq] at h
    exact ⟨x, rfl, by simp [cL, ← h]⟩
  | x :: r, k, i + 1, y, h => by
    simp only [mkL, List.getElem?_cons_succ] at h
    obtain ⟨x', h1, h2⟩ := mkL_get m c r _ i y h
    refine ⟨x', by simpa using h1, ?_⟩
    rw [h2]
    congr 1
    simp [cL]; omega
theorem mkL_getx {α : Type} (m : α → Int → α) (c : α → Nat) : ∀ (xs : List α) (k : Int) (i : Nat) (x : α), xs[i]? = some x → (mkL m c xs k)[i]? = some (m x (k + (cL c (xs.take i) : Nat)))
  | [], k, i, x, h => by simp at h
  | y :: r, k, 0, x, h => by
    simp only [List.getElem?_cons_zero, Option.some.injEq] at h
    subst h
    simp [mkL, cL]
  | y :: r, k, i + 1, x, h => by
    simp only [List.getElem?_cons_succ] at h
    have := mkL_getx m c r (k + c y) i x h
    simp only [mkL, List.getElem?_cons_succ, this, Option.some.injEq]
    congr 1
    simp [cL]; omega
theorem goL_cnt {α Y : Type} (c : α → Nat) (z : Int → Y) : ∀ (xs : List α) (i : Nat) (k : Int), goL (fun _ x (a : Int) => Sum.inl (a + (c x : Nat))) z i xs k = z (k + (cL c xs : Nat))
  | [], _, k => by simp [goL, cL]
  | x :: r, i, k => by
    rw [goL]
    simp only
    rw [goL_cnt c z r (i + 1)]
    congr 1
    simp [cL]; omega
theorem cL_take {α : Type} (c : α → Nat) {xs : List α} {i : Nat} {x : α} (h : xs[i]? = some x) : cL c (xs.take (i + 1)) = cL c (xs.take i) + c x := by
  rw [List.take_add_one, h]; simp [cL]
theorem cL_split {α : Type} (c : α → Nat) (xs : List α) (i : Nat) : cL c xs = cL c (xs.take i) + cL c (xs.drop i) := by
  have : xs = xs.take i ++ xs.drop i := (List.take_append_drop i xs).symm
  conv => lhs; rw [this]
  simp only [cL, List.map_append, List.sum_append]
theorem cL_take_all {α : Type} (c : α → Nat) (xs : List α) : cL c (xs.take xs.length) = cL c xs := by rw [List.take_length]
theorem cL_one {α : Type} (xs : List α) : cL (fun _ => 1) xs = xs.length := by
  induction xs with
  | nil => rfl
  | cons x r ih => simp only [cL, List.map_cons, List.sum_cons, List.length_cons] at ih ⊢; omega
theorem goL_cp {α Y : Type} (z : List α → Y) : ∀ (xs : List α) (i : Nat) (d : List α), goL (fun _ x (a : List α) => Sum.inl (a ++ [x])) z i xs d = z (d ++ xs)
  | [], _, d => by simp [goL]
  | x :: r, i, d => by rw [goL]; simp only; rw [goL_cp z r (i + 1)]; simp
end Go.Av
namespace Go.Av
open Go.RowKit (Below)
mutual
def BgK : (k : K) → T k → Prop
  | .int _, _ => True
  | .bool, _ => True
  | .str, s => List.length (α := UInt8) s ≤ big
  | .sl e ks, xs => (els (e := e) (ks := ks) xs).length ≤ big ∧ ∀ y ∈ els (e := e) (ks := ks) xs, BgL ks y
def BgL : (ks : List K) → Tl ks → Prop
  | [], _ => True
  | k :: ks, x => BgK k x.1 ∧ BgL ks x.2
end
def flB (E : En) (rd : Nat → Bool) : List (Nat × Nat) → List K → Nat → Bool
  | [], [], _ => true
  | (o, u) :: r, ks, off => Nat.beq o off && (rd u && match E.ti u with
    | some tu => K.sames (ks.take tu.ks.length) tu.ks && (Nat.ble tu.ks.length ks.length && flB E rd r (ks.drop tu.ks.length) (off + tu.ks.length))
    | none => false)
  | _, _, _ => false
def rdB (E : En) : Nat → Nat → Bool
  | 0, _ => false
  | n + 1, t => match E.ti t with
    | some ti => (match ti.agg with
      | true => flB E (rdB E n) ti.flds ti.ks 0
      | false => (match ti.ks with
        | [.sl e ks] => (match E.ti e with | some te => K.sames ks te.ks && (Nat.blt 0 te.bytes && (Nat.blt 0 te.ks.length && rdB E n e)) | none => false)
        | _ => true))
    | none => false
section
variable {H : Type} {enc : TypeId × Value → H} {P : Program} {w : World} {spare : Nat → Bool} {held : Bool} {E : En}
theorem ROl_cells (w : World) : ∀ (ks : List K) (x : Tl ks) (cs : List Value) (b o : Nat), ROs (Zall w) w ks x cs → (∀ j v, cs[j]? = some v → w.cell? ⟨b, o + j, none⟩ = some v) → ROl (Zall w) w ks x b o
  | [], _, _, _, _, _, _ => trivial
  | k :: ks, x, [], b, o, h, _ => h.elim
  | k :: ks, x, v :: vs, b, o, h, hc => ⟨⟨v, hc 0 v rfl, h.1⟩, ROl_cells w ks x.2 vs b (o + 1) h.2 fun j u hu => by have := hc (j + 1) u (by simpa using hu); rwa [show o + 1 + j = o + (j + 1) by omega]⟩
theorem ROs_len (w : World) {Z : Nat → Prop} : ∀ (ks : List K) (x : Tl ks) (cs : List Value), ROs Z w ks x cs → cs.length = ks.length
  | [], _, [], _ => rfl
  | [], _, _ :: _, h => h.elim
  | k :: ks, x, [], h => h.elim
  | k :: ks, x, v :: vs, h => by rw [List.length_cons, List.length_cons, ROs_len w ks x.2 vs h.2]
theorem ROs_app (w : World) {Z : Nat → Prop} : ∀ (a b : List K) (cs cs' : List Value) (x : Tl a) (y : Tl b), ROs Z w a x cs → BgL a x → ROs Z w b y cs' → BgL b y → ∃ z : Tl (a ++ b), ROs Z w (a ++ b) z (cs ++ cs') ∧ BgL (a ++ b) z
  | [], b, [], cs', _, y, _, _, h, hb => ⟨y, h, hb⟩
  | [], b, _ :: _, cs', _, y, h, _, _, _ => h.elim
  | k :: a, b, [], cs', x, y, h, _, _, _ => h.elim
  | k :: a, b, v :: vs, cs', x, y, h, hx, h', hb => by
    obtain ⟨z, h1, h2⟩ := ROs_app w a b vs cs' x.2 y h.2 hx.2 h' hb
    exact ⟨(x.1, z), ⟨h.1, h1⟩, ⟨hx.1, h2⟩⟩
theorem choose_list {α : Type} (p : Nat → α → Prop) : ∀ (n : Nat), (∀ i, i < n → ∃ x, p i x) → ∃ xs : List α, xs.length = n ∧ ∀ i x, xs[i]? = some x → p i x
  | 0, _ => ⟨[], rfl, fun i x h => by simp at h⟩
  | n + 1, h => by
    obtain ⟨xs, h1, h2⟩ := choose_list p n fun i hi => h i (by omega)
    obtain ⟨x, hx⟩ := h n (by omega)
    refine ⟨xs ++ [x], by simp [h1], fun i y hy => ?_⟩
    by_cases hi : i < n
    · rw [List.getElem?_append_left (by omega)] at hy
      exact h2 i y hy
    · rw [List.getElem?_append_right (by omega), h1] at hy
      cases hk : i - n with
      | zero =>
        rw [hk] at hy
        simp only [List.getElem?_cons_zero, Option.some.injEq] at hy
        subst hy
        rwa [show i = n by omega]
      | succ k => rw [hk] at hy; simp at hy
theorem fld_get : ∀ (l : List (Nat × Nat)) (i : Nat), fld l i = l[i]?
  | [], i => by cases i <;> rfl
  | x :: r, 0 => rfl
  | x :: r, i + 1 => by show fld r i = _; rw [fld_get r i]; rfl
theorem cells_get {base : Nat} {a : Addr} {n : Nat} {cs : List Value} (h : w.cells? base a n = some cs) : cs.length = n ∧ ∀ j v, cs[j]? = some v → w.cell? (a.add j) = some v := by
  unfold World.cells? at h
  split at h
  · refine ⟨by simpa using mapM_some_length h, fun j v hj => ?_⟩
    have hjl : j < n := by
      have := (List.getElem?_eq_some_iff.1 hj).1
      have h2 : cs.length = n := by simpa using mapM_some_length h
      omega
    have := mapM_some_get h j j (by simp [hjl])
    rw [this, hj]
  · simp at h
theorem cell_spot {a : Addr} {v : Value} (h : w.cell? a = some v) : a.spot = none ∧ a.block < w.heap.size := by
  unfold World.cell? at h
  split at h
  · rename_i c _ _ hb
    split at h
    · simp at h
    · rename_i hs
      refine ⟨by simpa using hs, ?_⟩
      rcases Nat.lt_or_ge a.block w.heap.size with hh | hh
      · exact hh
      · rw [Array.getElem?_eq_none hh] at hb; simp at hb
  · simp at h
theorem weightsAll_mem {e : TypeId} : ∀ (l : List (DataW H)) {d : DataW H}, d ∈ l → ∀ n ∈ d.weights P e, n ∈ DataW.weightsAll P e l
  | [], _, h, _, _ => by simp at h
  | x :: r, d, h, n, hn => by
    simp only [DataW.weightsAll, List.mem_append]
    rcases List.mem_cons.1 h with h | h
    · subst h; exact .inl hn
    · exact .inr (weightsAll_mem r h n hn)
theorem ROs_joined {ks a : List K} {cs : List Value} {m o : Nat} (hk : ks.take m = a) (hm : a.length = m) {x : Tl a} {y : Tl (ks.drop m)} (x1 : ROs (Zall w) w a x ((cs.drop o).take m)) (x2 : BgL a x) (y1 : ROs (Zall w) w (ks.drop m) y (cs.drop (o + m))) (y2 : BgL (ks.drop m) y) : ∃ z : Tl ks, ROs (Zall w) w ks z (cs.drop o) ∧ BgL ks z := by
  have h := ROs_app w _ _ _ _ x y x1 x2 y1 y2
  have e1 : a ++ ks.drop m = ks := by rw [← hk]; exact List.take_append_drop m ks
  have e2 : (cs.drop o).take m ++ cs.drop (o + m) = cs.drop o := by rw [← List.drop_drop, List.take_append_drop]
  rw [e1, e2] at h
  exact h
theorem trod_RO (hT : TTok P E) : ∀ (n t : Nat) (ti : TI), rdB E n t = true → E.ti t = some ti → ∀ (fuel : Nat) (cs : List Value) (d : DataW H) (ps : List MemPlace), DataW.trod enc P w 0 spare held fuel t cs = some (d, ps) → (∀ m ∈ d.weights P t, m ≤ big) → ∃ x : Tl ti.ks, ROs (Zall w) w ti.ks x cs ∧ BgL ti.ks x := by
  intro n
  induction n with
  | zero => intro t ti h; simp [rdB] at h
  | succ n ih =>
    intro t ti hrd hti fuel cs d ps htr hw
    have hTi := hT t ti hti
    obtain ⟨dd, hu, hdd⟩ := hTi.desc
    unfold rdB at hrd
    rw [hti] at hrd
    simp only at hrd
    obtain ⟨inf, hinf, hsz, _⟩ := hTi.info
    have hcell : P.cellsOf t = ti.ks.length := by simp [Program.cellsOf, hinf, hsz]
    cases dd with
    | bool =>
      obtain ⟨hag, hks⟩ := hdd
      obtain ⟨b, rfl, _⟩ := DataW.trod_bool hu htr
      rw [hks]
      exact ⟨(b, ()), ⟨rfl, trivial⟩, ⟨trivial, trivial⟩⟩
    | int k =>
      obtain ⟨hag, hks⟩ := hdd
      obtain ⟨v, rfl, _, hwf⟩ := DataW.trod_int hu htr
      rw [hks]
      refine ⟨(v, ()), ⟨⟨rfl, ?_⟩, trivial⟩, ⟨trivial, trivial⟩⟩
      simpa [Lit.wf, inR] using hwf
    | string =>
      obtain ⟨hag, hks⟩ := hdd
      obtain ⟨v, rfl, hx, _⟩ := DataW.trod_string hu htr
      simp only [Prod.mk.injEq] at hx
      obtain ⟨rfl, _⟩ := hx
      rw [hks]
      have hl := hw v.data.toList.length (by simp [DataW.weights])
      exact ⟨(v.data.toList, ()), ⟨⟨by simp [mkS], hl⟩, trivial⟩, ⟨hl, trivial⟩⟩
    | slice e =>
      obtain ⟨hag, ks, hks, hel⟩ := hdd
      obtain ⟨ag, kk, el, by', fl⟩ := ti
      simp only at hks hel hag
      subst hks
      subst hel
      subst hag
      simp only at hrd
      cases hte : E.ti el with
      | none => rw [hte] at hrd; simp at hrd
      | some te =>
      rw [hte] at hrd
      simp only [Bool.and_eq_true] at hrd
      obtain ⟨r1, r2, r3, r4⟩ := hrd
      have hkk := K.sames_eq _ _ r1
      subst hkk
      have hby : 0 < te.bytes := Nat.lt_of_succ_le (Nat.le_of_ble_eq_true r2)
      have hkl : 0 < te.ks.length := Nat.lt_of_succ_le (Nat.le_of_ble_eq_true r3)
      obtain ⟨inf2, hinf2, hsz2, hby2, _⟩ := (hT el te hte).info
      have hce : P.cellsOf el = te.ks.length := by simp [Program.cellsOf, hinf2, hsz2]
      have hbe : P.bytesOf el = te.bytes := by simp [Program.bytesOf, hinf2, hby2]
      rcases DataW.trod_slice hu htr with ⟨rfl, _⟩ | ⟨a, len, cap, elems, rest, m, _, rfl, hx, _, hlc, hcm, hlen, hel, _⟩
      · exact ⟨(([] : List (Tl te.ks)), ()), ⟨⟨none, 0, rfl, Nat.le_refl _, Nat.zero_le _, fun _ => rfl, fun h => absurd rfl h⟩, trivial⟩, ⟨⟨Nat.zero_le _, fun y hy => by simp [els] at hy⟩, trivial⟩⟩
      · simp only [Prod.mk.injEq] at hx
        obtain ⟨rfl, _⟩ := hx
        have hwl : (elems.length + rest.length) * te.bytes ≤ big := by
          have := hw ((elems.length + rest.length) * P.bytesOf el) (by simp [DataW.weights, hu])
          rwa [hbe] at this
        have hlb : len ≤ big := by
          have := Nat.le_mul_of_pos_right (elems.length + rest.length) hby
          omega
        rw [hce] at hel
        have hone : ∀ i, i < len → ∃ x : Tl te.ks, (a.spot = none ∨ 0 < i) ∧ (∃ cells, w.cells? 0 (a.add (i * te.ks.length)) te.ks.length = some cells ∧ ROs (Zall w) w te.ks x cells) ∧ BgL te.ks x := fun i hi => by
          have h1 := hel i hi
          have hei : elems[i]? = some (elems[i]'(by omega)) := List.getElem?_eq_getElem (by omega)
          rw [hei] at h1
          obtain ⟨cells, hc1, hc2⟩ := Option.bind_eq_some_iff.1 h1
          obtain ⟨x, hx1, hx2⟩ := ih el te r4 hte m cells _ _ hc2 fun q hq => hw q (by
            simp only [DataW.weights, hu, List.mem_cons, List.mem_append]
            right; left
            exact weightsAll_mem (elems.map (·.1)) (List.mem_map.2 ⟨_, List.getElem_mem (by omega : i < elems.length), rfl⟩) q hq)
          refine ⟨x, ?_, ⟨cells, hc1, hx1⟩, hx2⟩
          rcases Nat.eq_zero_or_pos i with h0 | h0
          · left
            subst h0
            obtain ⟨g1, g2⟩ := cells_get hc1
            obtain ⟨v, hv⟩ : ∃ v, cells[0]? = some v := ⟨cells[0]'(by omega), List.getElem?_eq_getElem (by omega)⟩
            have := g2 0 v hv
            simp [Addr.add] at this
            exact (cell_spot this).1
          · exact .inr h0
        obtain ⟨xs, hxl, hxs⟩ := choose_list _ len hone
        refine ⟨((xs : List (Tl te.ks)), ()), ⟨⟨some a, cap, by show Value.slice (some a) len cap = .slice (some a) xs.length cap; rw [hxl], by show xs.length ≤ cap; omega, by show xs.length ≤ big; omega, fun h => by simp at h, fun hne => ?_⟩, trivial⟩, ⟨⟨by show xs.length ≤ big; omega, fun y hy => ?_⟩, trivial⟩⟩
        · have hpos : 0 < xs.length := List.length_pos_iff.2 hne
          have hx0 := hxs 0 _ (List.getElem?_eq_getElem hpos)
          have hsp : a.spot = none := by
            rcases hx0.1 with h | h
            · exact h
            · omega
          obtain ⟨ab, ao, asp⟩ := a
          simp only at hsp
          subst hsp
          have hadd : ∀ o k, (⟨ab, o, none⟩ : Addr).add k = ⟨ab, o + k, none⟩ := fun o k => by
            unfold Addr.add
            split
            · rename_i h; subst h; rfl
            · rfl
          have hblk : ab < w.heap.size := by
            obtain ⟨_, ⟨cells, hc1, hc2⟩, _⟩ := hx0
            obtain ⟨g1, g2⟩ := cells_get hc1
            obtain ⟨v, hv⟩ : ∃ v, cells[0]? = some v := ⟨cells[0]'(by omega), List.getElem?_eq_getElem (by omega)⟩
            have := g2 0 v hv
            rw [hadd, hadd] at this
            exact (cell_spot this).2
          refine ⟨ab, ao, rfl, hblk, hblk, fun i x hi => ?_⟩
          obtain ⟨_, ⟨cells, hc1, hc2⟩, _⟩ := hxs i x hi
          obtain ⟨g1, g2⟩ := cells_get hc1
          refine ROl_cells w te.ks x cells ab (ao + i * te.ks.length) hc2 fun j v hj => ?_
          have := g2 j v hj
          rw [hadd, hadd] at this
          exact this
        · obtain ⟨i, hi⟩ := List.getElem?_of_mem hy
          exact (hxs i y hi).2.2
    | struct fs =>
      obtain ⟨hag, hfl, _⟩ := hdd
      rw [hag] at hrd
      simp only at hrd
      obtain ⟨xs, m, _, hx, hlen, hxl, hget⟩ := DataW.trod_struct hu htr
      simp only [Prod.mk.injEq] at hx
      obtain ⟨rfl, _⟩ := hx
      rw [hcell] at hlen
      have key : ∀ (l : List (Nat × Nat)) (ks : List K) (off i : Nat), (∀ j, fld l j = fld ti.flds (i + j)) → off + ks.length = ti.ks.length → flB E (rdB E n) l ks off = true → ∃ x : Tl ks, ROs (Zall w) w ks x (cs.drop off) ∧ BgL ks x := by
        intro l
        induction l with
        | nil =>
          intro ks off i hf ho hb
          cases ks with
          | nil =>
            rw [List.drop_of_length_le (by simp at ho; omega)]
            exact ⟨(), trivial, trivial⟩
          | cons k ks => simp [flB] at hb
        | cons p r ihl =>
          intro ks off i hf ho hb
          obtain ⟨o, u⟩ := p
          have hb' : (Nat.beq o off && (rdB E n u && match E.ti u with
            | some tu => K.sames (ks.take tu.ks.length) tu.ks && (Nat.ble tu.ks.length ks.length && flB E (rdB E n) r (ks.drop tu.ks.length) (off + tu.ks.length))
            | none => false)) = true := by
            cases ks <;> exact hb
          simp only [Bool.and_eq_true] at hb'
          obtain ⟨b1, b2, b3⟩ := hb'
          cases htu : E.ti u with
          | none => rw [htu] at b3; simp at b3
          | some tu =>
          rw [htu] at b3
          simp only [Bool.and_eq_true] at b3
          obtain ⟨b3, b4, b5⟩ := b3
          have ho' := beq_eq b1
          subst ho'
          have hks := K.sames_eq _ _ b3
          have hkl : tu.ks.length ≤ ks.length := Nat.le_of_ble_eq_true b4
          have h0 := hf 0
          rw [Nat.add_zero] at h0
          obtain ⟨fi, f1, f2, f3⟩ := hfl i o u h0.symm
          have hg := hget i fi f1
          rw [f2, f3] at hg
          obtain ⟨inu, hinu, hsu, _⟩ := (hT u tu htu).info
          have hcu : P.cellsOf u = tu.ks.length := by simp [Program.cellsOf, hinu, hsu]
          rw [hcu] at hg
          have hil : i < xs.length := by rw [hxl]; exact (Array.getElem?_eq_some_iff.1 f1).1
          rw [List.getElem?_eq_getElem hil] at hg
          obtain ⟨x, x1, x2⟩ := ih u tu b2 htu m _ _ _ hg fun q hq => hw q (by
            simp only [DataW.weights, hu]
            refine DataW.weights_mem_each (j := i) (t := u) (d := xs[i].1) ?_ ?_ q hq
            · rw [List.getElem?_map, Array.getElem?_toList, f1, Option.map_some, f3]
            · rw [List.getElem?_map, List.getElem?_eq_getElem hil]; rfl)
          obtain ⟨y, y1, y2⟩ := ihl (ks.drop tu.ks.length) (o + tu.ks.length) (i + 1) (fun j => by rw [show i + 1 + j = i + (j + 1) by omega, ← hf (j + 1)]; rfl) (by rw [List.length_drop]; omega) b5
          exact ROs_joined hks rfl x1 x2 y1 y2
      obtain ⟨x, x1, x2⟩ := key ti.flds ti.ks 0 0 (fun j => by rw [Nat.zero_add]) (by omega) hrd
      exact ⟨x, x1, x2⟩
    | _ => exact hdd.elim
end
end Go.Av
namespace Go.Av
open Go.RowKit (Below)
def psB (E : En) : List Nat → List PK → Bool
  | [], [] => true
  | t :: ts, .c g ks :: ps => (match E.ti t with | some ti => boolEq g ti.agg && (K.sames ks ti.ks && rdB E 30 t) | none => false) && psB E ts ps
  | _, _ => false
def BgP : (ps : List PK) → PT ps → Prop
  | [], _ => True
  | .c _ ks :: ps, x => BgL ks x.1 ∧ BgP ps x.2
  | .pt _ :: ps, x => BgP ps x.2
  | .nil :: ps, x => BgP ps x
  | .fn _ _ :: ps, x => BgP ps x.2
  | .io _ _ :: ps, x => BgP ps x.2
  | .mv _ :: ps, x => BgP ps x.2
section
variable {H : Type} {enc : TypeId × Value → H} {P : Program} {w : World} {spare : Nat → Bool} {held : Bool} {E : En}
theorem arg_RO (hT : TTok P E) {t : Nat} {ti : TI} (hr : rdB E 30 t = true) (hti : E.ti t = some ti) {base : Nat} {v : Value} (hv : Value.okWide P w .any base t v) {d : DataW H} {p : List MemPlace} (h : DataW.Trod enc P w 0 spare held t v d p) (hw : ∀ m ∈ d.weights P t, m ≤ big) :
    ∃ x : Tl ti.ks, ROv (Zall w) w ti.agg ti.ks x v ∧ BgL ti.ks x := by
  obtain ⟨fuel, h⟩ := h
  obtain ⟨x, h1, h2⟩ := trod_RO hT 30 t ti hr hti fuel _ d p h hw
  refine ⟨x, ⟨v.cells.toList, ?_, h1⟩, h2⟩
  obtain ⟨dd, hu, hdd⟩ := (hT t ti hti).desc
  unfold Value.okWide at hv
  rw [hu] at hv
  cases dd with
  | struct fs =>
    obtain ⟨cs, rfl, _⟩ := hv
    rw [hdd.1]
    show Value.agg cs = .agg cs.toList.toArray
    simp
  | bool =>
    rw [hdd.1]
    unfold Cell.okWide at hv
    rw [hu] at hv
    cases v <;> first | rfl | exact (by simp [Cell.ok, hu] at hv)
  | int k =>
    rw [hdd.1]
    unfold Cell.okWide at hv
    rw [hu] at hv
    cases v <;> first | rfl | exact (by simp [Cell.ok, hu] at hv)
  | string =>
    rw [hdd.1]
    unfold Cell.okWide at hv
    rw [hu] at hv
    cases v <;> first | rfl | exact (by simp [Cell.ok, hu] at hv)
  | slice e =>
    rw [hdd.1]
    unfold Cell.okWide at hv
    rw [hu] at hv
    cases v <;> first | rfl | exact (by simp [Cell.ok, hu] at hv)
  | _ => exact hdd.elim
theorem trod_len {base : Nat} {spare : Nat → Bool} {held : Bool} : ∀ (ts : List Nat) (vs : List Value) (ds : List (DataW H)) (pl : List MemPlace), DataW.TrodAll enc P w base spare held ts vs ds pl → ds.length = ts.length
  | [], [], [], _, _ => rfl
  | t :: ts, v :: vs, d :: ds, _, h => by
    obtain ⟨p, q, _, h2, _⟩ := h
    simp [trod_len ts vs ds q h2]
  | [], _ :: _, _, _, h => h.elim
  | [], [], _ :: _, _, h => h.elim
  | _ :: _, [], _, _, h => h.elim
  | _ :: _, _ :: _, [], _, h => h.elim
theorem args_all (hT : TTok P E) {base : Nat} : ∀ (ts : List Nat) (ps : List PK), psB E ts ps = true → ∀ (vs : List Value) (ds : List (DataW H)) (pl : List MemPlace) (n : Nat), DataW.TrodAll enc P w 0 spare held ts vs ds pl → (∀ (j : Nat) t v, ts[j]? = some t → vs[j]? = some v → Value.okWide P w .any base t v) →
      (∀ m ∈ DataW.weightsEach P ts ds, m ≤ big) → ∃ x : PT ps, ArgsR (Zall w) w (fun _ _ => False) ps x vs n ∧ BgP ps x
  | [], [], _, [], [], pl, n, h, hv, hw => ⟨(), trivial, trivial⟩
  | [], [], _, _ :: _, _, pl, n, h, hv, hw => h.elim
  | [], [], _, [], _ :: _, pl, n, h, hv, hw => h.elim
  | t :: ts, .c g ks :: ps, hp, [], ds, pl, n, h, hv, hw => h.elim
  | t :: ts, .c g ks :: ps, hp, _ :: _, [], pl, n, h, hv, hw => h.elim
  | t :: ts, .c g ks :: ps, hp, v :: vs, d :: ds, pl, n, h, hv, hw => by
    obtain ⟨p, q, h1, h2, _⟩ := h
    unfold psB at hp
    simp only [Bool.and_eq_true] at hp
    obtain ⟨hp1, hp2⟩ := hp
    cases hti : E.ti t with
    | none => rw [hti] at hp1; simp at hp1
    | some ti =>
      rw [hti] at hp1
      simp only [Bool.and_eq_true] at hp1
      obtain ⟨b1, b2, b3⟩ := hp1
      have e1 := boolEq_eq b1
      have e2 := K.sames_eq _ _ b2
      subst e1
      subst e2
      obtain ⟨x, x1, x2⟩ := arg_RO hT b3 hti (hv 0 t v rfl rfl) h1 (fun m hm => hw m (by simp only [DataW.weightsEach, List.mem_append]; exact .inl hm))
      obtain ⟨y, y1, y2⟩ := args_all hT ts ps hp2 vs ds q n h2 (fun j t' v' ht hv' => hv (j + 1) t' v' (by simpa using ht) (by simpa using hv')) (fun m hm => hw m (by simp only [DataW.weightsEach, List.mem_append]; exact .inr hm))
      exact ⟨(x, y), ⟨x1, y1⟩, ⟨x2, y2⟩⟩
  | [], .c _ _ :: _, hp, _, _, _, _, _, _, _ => by simp [psB] at hp
  | [], .pt _ :: _, hp, _, _, _, _, _, _, _ => by simp [psB] at hp
  | [], .nil :: _, hp, _, _, _, _, _, _, _ => by simp [psB] at hp
  | [], .fn _ _ :: _, hp, _, _, _, _, _, _, _ => by simp [psB] at hp
  | [], .io _ _ :: _, hp, _, _, _, _, _, _, _ => by simp [psB] at hp
  | [], .mv _ :: _, hp, _, _, _, _, _, _, _ => by simp [psB] at hp
  | _ :: _, [], hp, _, _, _, _, _, _, _ => by simp [psB] at hp
  | _ :: _, .pt _ :: _, hp, _, _, _, _, _, _, _ => by simp [psB] at hp
  | _ :: _, .nil :: _, hp, _, _, _, _, _, _, _ => by simp [psB] at hp
  | _ :: _, .fn _ _ :: _, hp, _, _, _, _, _, _, _ => by simp [psB] at hp
  | _ :: _, .io _ _ :: _, hp, _, _, _, _, _, _, _ => by simp [psB] at hp
  | _ :: _, .mv _ :: _, hp, _, _, _, _, _, _, _ => by simp [psB] at hp
theorem resR_bool {fresh : Bool} {Z : Nat → Prop} {w : World} {H : Nat → Nat → Prop} {b : Bool} : ∀ {vs : List Value}, ResR fresh Z w H [(false, [.bool])] ((b, ()), ()) vs 0 → vs = [.bool b]
  | [], h => h.elim
  | [v], h => by
    obtain ⟨⟨cs, hc, hcells⟩, _⟩ := h
    have hc : cs = [v] := hc
    subst hc
    have hv : v = .bool b := hcells.1
    rw [hv]
  | _ :: _ :: _, h => h.2.elim
theorem law_calls {f : Nat} {fn : Func} {c : Code} {s : Su} (hsu : SuOK P f s) (hf : P.funcs[f]? = some fn) (hname : (fn.name == "runtime.NumGoroutine") = false) (hb : fn.body = some c)
    {args : Array Value} {x : PT s.ps} (hargs : ArgsR (Zall w) w (fun _ _ => False) s.ps x args.toList 0)
    (hlaw : ∃ y, s.ans x = some y ∧ ∀ (Z : Nat → Prop) (w' : World) (H : Nat → Nat → Prop) (vs : List Value), ResR s.fresh Z w' H s.rs y.2 vs 0 → vs = [.bool true]) :
    Calls P f args w fun e w' => e = .returned (.bool true) ∧ Below w.heap.size w w' := by
  obtain ⟨y, hy, hres⟩ := hlaw
  have h := hsu w (Zall w) (fun _ _ => False) args x y hargs (fun b hb => hb) (fun i b hb => hb.elim) (fun i j b hb => hb.elim) hy
  rw [MuLone.run_callFunc_enter hf hname hb] at h
  have h : Calls P f args w _ := h
  refine h.mono fun e w' he => ?_
  cases e with
  | returned v =>
    obtain ⟨Z', H', vs, rfl, ha, _, hr⟩ := he
    have hvs := hres Z' w' _ vs hr
    subst hvs
    exact ⟨rfl, ha.os, ha.tape, ha.output, ha.size, fun k hk => ha.block k hk fun i hi => hi⟩
  | _ => exact he.elim
theorem Below.trodAll (hl : laidOutB P = true) {W W' : World} (hb : Below W.heap.size W W') : ∀ (ts : List TypeId) (vs : List Value) (ds : List (DataW H)) (ps : List MemPlace), (∀ t ∈ ts, P.readableRec t = true ∧ t < P.types.size) → DataW.TrodAll enc P W 0 (fun _ => true) true ts vs ds ps → (∀ x ∈ ps, x.block < W.heap.size) → DataW.TrodAll enc P W' 0 (fun b => decide (b < W.heap.size)) true ts vs ds ps
  | [], [], [], ps, _, h, _ => h
  | t :: ts, v :: vs, d :: ds, ps, ht, h, hlt => by
    obtain ⟨p, q, h1, h2, rfl⟩ := h
    exact ⟨p, q, Below.trod hl (ht t (List.mem_cons_self ..)).1 (ht t (List.mem_cons_self ..)).2 h1 hb (fun x hx => hlt x (List.mem_append_left _ hx)), Below.trodAll hl hb ts vs ds q (fun t ht' => ht t (List.mem_cons_of_mem _ ht')) h2 (fun x hx => hlt x (List.mem_append_right _ hx)), rfl⟩
  | [], _ :: _, _, _, _, h, _ => h.elim
  | [], [], _ :: _, _, _, h, _ => h.elim
  | _ :: _, [], _, _, _, h, _ => h.elim
  | _ :: _, _ :: _, [], _, _, h, _ => h.elim
theorem law_post {fn : Func} {s : ChangeSpec} (hl : laidOutB P = true) (hvars : s.vars = []) {rt : TypeId} (hrt : fn.resultTypes = #[rt]) (hru : P.underlying rt = some .bool) (hpar : ∀ t ∈ fn.params.toList, P.readableRec t = true ∧ t < P.types.size)
    {W W' : World} {args : Array Value} {ds gs : List (DataW H)} {before : List MemPlace} (hW : DataW.Whole enc P fn.params.toList s.vars false W args.toList ds gs before) (hb : Below W.heap.size W W')
    (hs : s.fn H (ds ++ gs) = { results := [.lit (.bool true)], args := ds }) : s.post enc P fn false true false false W args (.bool true) W' := by
  have hlt := hW.lt
  have hW0 := hW
  obtain ⟨p, q, hA, hV, rfl, _, _⟩ := hW
  rw [hvars] at hV
  obtain ⟨rfl, rfl⟩ : gs = [] ∧ q = [] := by
    cases gs with
    | nil => exact ⟨rfl, hV⟩
    | cons _ _ => exact hV.elim
  refine ⟨ds, [], _, [], p, [], hW0, ?_, ?_, ?_, hb.frame _, fun h => by simp at h⟩
  · rw [hs, hrt]
    exact ⟨[], [], Go.RowKit.shut_bool hru true, rfl, rfl⟩
  · rw [hs]
    exact Below.trodAll hl hb _ _ _ _ hpar hA fun x hx => by have := hlt x (List.mem_append_left _ hx); simpa using this
  · rw [hs, hvars]
    rfl
end
end Go.Av
