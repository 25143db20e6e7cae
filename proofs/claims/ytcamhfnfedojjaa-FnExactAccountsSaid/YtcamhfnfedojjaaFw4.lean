/- Part of a proof that the law FnExactAccounts answers true for every input: the framework, an evaluator over symbolic data and why it is right. No conditions beyond the statement. -/
import Derived.Test.YtcamhfnfedojjaaFw3
import Derived.IntWalk
import Derived.ChangeArms
import Derived.SizedLaws
import Derived.Carry
import Derived.HandedShaped
import Derived.ProofKit
namespace Go.Av
open Go.RowKit (Below)
def pureOp (o : Oper) : Bool := match o.op, o.guard, o.dst with | .extract (.tmp _) _, none, some _ => true | .move (.tmp _), none, some _ => true | _, _, _ => false
def exOf (ex : List (Nat × Nat)) (i : Nat) : List Edge := (ex.filter fun p => Nat.beq p.1 i).map fun p => ⟨p.2, .data⟩
def addE (ex : List (Nat × Nat)) : List Oper → Nat → List Oper
  | [], _ => []
  | o :: r, i => { o with after := o.after ++ (exOf ex i).toArray } :: addE ex r (i + 1)
theorem addE_get (ex : List (Nat × Nat)) : ∀ (l : List Oper) (i k : Nat), (addE ex l i)[k]? = (l[k]?).map fun o => { o with after := o.after ++ (exOf ex (i + k)).toArray }
  | [], _, _ => by simp [addE]
  | o :: r, i, 0 => by simp [addE]
  | o :: r, i, k + 1 => by
    rw [addE, List.getElem?_cons_succ, addE_get ex r (i + 1) k, List.getElem?_cons_succ, show i + 1 + k = i + (k + 1) by omega]
theorem addE_len (ex : List (Nat × Nat)) : ∀ (l : List Oper) (i : Nat), (addE ex l i).length = l.length
  | [], _ => rfl
  | o :: r, i => by simp [addE, addE_len ex r]
def addA (ex : List (Nat × Nat)) (ops : Array Oper) : Array Oper := (addE ex ops.toList 0).toArray
theorem addA_get (ex : List (Nat × Nat)) (ops : Array Oper) (k : Nat) : (addA ex ops)[k]? = (ops[k]?).map fun o => { o with after := o.after ++ (exOf ex k).toArray } := by
  rw [addA, List.getElem?_toArray, addE_get, Array.getElem?_toList, Nat.zero_add]
theorem addA_size (ex : List (Nat × Nat)) (ops : Array Oper) : (addA ex ops).size = ops.size := by simp [addA, addE_len]
def hoistOk (ops : Array Oper) (ex : List (Nat × Nat)) : Bool :=
  Region.noSelect ops && ex.all fun p => (match ops[p.2]?, ops[p.1]? with
    | some oj, some oi => pureOp oj && (exOf ex p.2).isEmpty && (oj.after.toList.all fun e => !bindsAny e || oi.after.toList.any fun e' => bindsAny e' && Nat.beq e'.on e.on) &&
        (List.range ops.size).all fun k => Nat.beq k p.2 || (match ops[k]? with | some ok => (ok.after.toList.any fun e => bindsAny e && Nat.beq e.on p.2) || ((oj.after.toList.any fun e => bindsAny e && Nat.beq e.on k) || oj.apart ops ok) | none => true)
    | _, _ => false)
section
variable {P : Program} {ops : Array Oper} {Q : Exit → Act → World → Prop}
theorem yielded_addA (ex : List (Nat × Nat)) (ops : Array Oper) (tmps : Array Value) : yielded (addA ex ops) tmps = yielded ops tmps := by
  funext g
  unfold yielded
  rw [addA_get]
  cases ops[g]? <;> rfl
theorem wpOp_addA {ex : List (Nat × Nat)} {k : Nat} {K : Act → World → Prop} {a : Act} {w : World} (h : wpOp P (addA ex ops) Q k K a w) : wpOp P ops Q k K a w := by
  unfold wpOp at h ⊢
  rw [addA_get, yielded_addA] at h
  cases ho : ops[k]? with
  | none => rw [ho] at h; exact h
  | some o => rw [ho] at h; exact h
theorem pure_yields {o : Oper} (hp : pureOp o = true) (hL : ¬ LetsOut Q) (hQ : ∀ c a w, ¬ Q (.panic c) a w) {k : Nat} (ho : ops[k]? = some o) {K : Act → World → Prop} {a : Act} {w : World} (h : wpOp P ops Q k K a w) :
    ∃ v, Yields P ops o v a ∧ K (a.put o.dst v) w := by
  unfold pureOp at hp
  split at hp
  · rename_i t i d h1 h2 h3
    have hw : Region.wanted o (yielded ops a.tmps) = true := by simp [Region.wanted, h2]
    unfold wpOp at h
    rw [ho] at h
    simp only [hw, if_true] at h
    have h := h.resolve_right fun h => hL h.2
    unfold Oper.wp at h
    have he : ∀ w, (execOp a.eval o).run P w = (match a.eval (.tmp t) with | .tuple vs => (match vs[i]? with | some v => Result.ok (.value v) w | none => (execOp a.eval o).run P w) | _ => (execOp a.eval o).run P w) := fun w => by
      split
      · rename_i vs hv
        split
        · rename_i v hi
          simp [execOp, h1, hv, Instr.extract, hi]
        · rfl
      · rfl
    cases hv : a.eval (.tmp t) with
    | tuple vs =>
      cases hi : vs[i]? with
      | some v =>
        refine ⟨v, .inl ⟨hw, fun w => by rw [he w, hv]; simp only [hi]⟩, ?_⟩
        rw [he w, hv] at h
        simp only [hi, Oper.upon] at h
        exact h
      | none =>
        exfalso
        simp [execOp, h1, hv, Instr.extract, hi, Oper.upon] at h
    | _ =>
      exfalso
      simp [execOp, h1, hv, Instr.extract, Oper.upon] at h
  · rename_i t d h1 h2 h3
    have hw : Region.wanted o (yielded ops a.tmps) = true := by simp [Region.wanted, h2]
    unfold wpOp at h
    rw [ho] at h
    simp only [hw, if_true] at h
    have h := h.resolve_right fun h => hL h.2
    have he : ∀ w, (execOp a.eval o).run P w = .ok (.value (a.eval (.tmp t))) w := fun w => by simp [execOp, h1]
    refine ⟨a.eval (.tmp t), .inl ⟨hw, he⟩, ?_⟩
    unfold Oper.wp at h
    rw [he w, Oper.upon_value] at h
    exact h
  · simp at hp
theorem mem_exOf {ex : List (Nat × Nat)} {k : Nat} {e : Edge} (h : e ∈ exOf ex k) : ∃ p, p ∈ ex ∧ p.1 = k ∧ e.on = p.2 := by
  unfold exOf at h
  obtain ⟨p, hp, rfl⟩ := List.mem_map.1 h
  obtain ⟨h1, h2⟩ := List.mem_filter.1 hp
  exact ⟨p, h1, beq_eq h2, rfl⟩
theorem exOf_mem {ex : List (Nat × Nat)} {p : Nat × Nat} (h : p ∈ ex) : (⟨p.2, .data⟩ : Edge) ∈ exOf ex p.1 :=
  List.mem_map.2 ⟨p, List.mem_filter.2 ⟨h, Nat.beq_refl _⟩, rfl⟩
theorem ready_addA {ex : List (Nat × Nat)} {listed : Array Bool} {k : Nat} : k ∈ Region.ready .any (addA ex ops) listed ↔ k ∈ Region.ready .any ops listed ∧ ∀ p ∈ ex, p.1 = k → listed.getD p.2 false = true := by
  rw [mem_ready, mem_ready]
  constructor
  · rintro ⟨h0, o', ho', hall⟩
    rw [addA_get] at ho'
    cases ho : ops[k]? with
    | none => rw [ho] at ho'; simp at ho'
    | some o =>
      rw [ho] at ho'
      simp only [Option.map_some, Option.some.injEq] at ho'
      subst ho'
      refine ⟨⟨h0, o, rfl, fun e he hb => hall e (by simp [he]) hb⟩, fun p hp hk => ?_⟩
      subst hk
      exact hall ⟨p.2, .data⟩ (by simp [exOf_mem hp]) rfl
  · rintro ⟨⟨h0, o, ho, hall⟩, hex⟩
    refine ⟨h0, _, by rw [addA_get, ho]; rfl, fun e he hb => ?_⟩
    simp only [Array.mem_append, List.mem_toArray] at he
    rcases he with he | he
    · exact hall e he hb
    · obtain ⟨p, hp, h1, h2⟩ := mem_exOf he
      rw [h2]
      exact hex p hp h1
theorem hoist {ex : List (Nat × Nat)} (hok : hoistOk ops ex = true) (hL : ¬ LetsOut Q) (hQ : ∀ c a w, ¬ Q (.panic c) a w) :
    ∀ (fuel : Nat) (listed : Array Bool) (a : Act) (w : World), listed.size = ops.size → wpAny P .any (addA ex ops) Q fuel listed a w → wpAny P .any ops Q fuel listed a w := by
  unfold hoistOk at hok
  simp only [Bool.and_eq_true] at hok
  obtain ⟨hns, hok⟩ := hok
  have hsel := Region.noSelect_spec hns
  have facts : ∀ p ∈ ex, ∃ oj oi, ops[p.2]? = some oj ∧ ops[p.1]? = some oi ∧ pureOp oj = true ∧ exOf ex p.2 = [] ∧ (∀ e ∈ oj.after, bindsAny e = true → ∃ e' ∈ oi.after, bindsAny e' = true ∧ e'.on = e.on) ∧
      ∀ k ok, ops[k]? = some ok → k ≠ p.2 → (∀ e ∈ ok.after, Region.binds .any e = true → e.on ≠ p.2) → (∃ e ∈ oj.after, bindsAny e = true ∧ e.on = k) ∨ oj.apart ops ok = true := by
    intro p hp
    have h := List.all_eq_true.1 hok p hp
    cases h2 : ops[p.2]? with
    | none => rw [h2] at h; simp at h
    | some oj =>
      cases h1 : ops[p.1]? with
      | none => rw [h2, h1] at h; simp at h
      | some oi =>
        rw [h2, h1] at h
        simp only [Bool.and_eq_true] at h
        obtain ⟨⟨⟨g1, g2⟩, g3⟩, g4⟩ := h
        refine ⟨oj, oi, rfl, rfl, g1, List.isEmpty_iff.1 g2, fun e he hb => ?_, fun k ok hk hne hno => ?_⟩
        · have := List.all_eq_true.1 g3 e (by simpa using he)
          rw [hb] at this
          simp only [Bool.not_true, Bool.false_or] at this
          obtain ⟨e', he', h'⟩ := List.any_eq_true.1 this
          simp only [Bool.and_eq_true] at h'
          exact ⟨e', by simpa using he', h'.1, beq_eq h'.2⟩
        · have hlt : k < ops.size := (Array.getElem?_eq_some_iff.1 hk).1
          have := List.all_eq_true.1 g4 k (List.mem_range.2 hlt)
          rw [hk] at this
          simp only [Bool.or_eq_true] at this
          rcases this with h | h | h | h
          · exact absurd (beq_eq h) hne
          · obtain ⟨e', he', h'⟩ := List.any_eq_true.1 h
            simp only [Bool.and_eq_true] at h'
            exact absurd (beq_eq h'.2) (hno e' (by simpa using he') h'.1)
          · obtain ⟨e', he', h'⟩ := List.any_eq_true.1 h
            simp only [Bool.and_eq_true] at h'
            exact .inl ⟨e', by simpa using he', h'.1, beq_eq h'.2⟩
          · exact .inr h
  have hR : ∀ (listed : Array Bool), listed.size = ops.size → ∀ k, k ∈ Region.ready .any ops listed → ∀ p ∈ ex, p.1 = k → listed.getD p.2 false ≠ true → p.2 ∈ Region.ready .any (addA ex ops) listed ∧ p.2 ∈ Region.ready .any ops listed := by
    intro listed hls k hk p hp hpk hun
    obtain ⟨oj, oi, h2, h1, g1, g2, g3, g4⟩ := facts p hp
    obtain ⟨_, o, ho, hall⟩ := mem_ready.1 hk
    rw [← hpk, h1] at ho
    cases ho
    have hlt : p.2 < listed.size := by rw [hls]; exact (Array.getElem?_eq_some_iff.1 h2).1
    have hr : p.2 ∈ Region.ready .any ops listed := by
      refine mem_ready.2 ⟨?_, oj, h2, fun e he hb => ?_⟩
      · simp only [Array.getD_eq_getD_getElem?, Array.getElem?_eq_getElem hlt, Option.getD_some] at hun ⊢
        simpa using hun
      · obtain ⟨e', he', hb', h'⟩ := g3 e he hb
        rw [← h']
        exact hall e' he' hb'
    refine ⟨ready_addA.2 ⟨hr, fun q hq hqk => ?_⟩, hr⟩
    have := exOf_mem hq
    rw [hqk, g2] at this
    simp at this
  intro fuel
  induction fuel with
  | zero =>
    intro listed a w hls H
    refine ⟨List.eq_nil_iff_forall_not_mem.2 fun k hk => ?_, H.2⟩
    by_cases hall : ∀ p ∈ ex, p.1 = k → listed.getD p.2 false = true
    · have := ready_addA.2 ⟨hk, hall⟩
      rw [H.1] at this
      simp at this
    · simp only [Classical.not_forall] at hall
      obtain ⟨p, hp, hpk, hun⟩ := hall
      have := (hR listed hls k hk p hp hpk hun).1
      rw [H.1] at this
      simp at this
  | succ fuel ih =>
    intro listed a w hls H
    by_cases hex : ∃ p, p ∈ ex ∧ p.2 ∈ Region.ready .any ops listed
    · obtain ⟨p, hp, hr⟩ := hex
      obtain ⟨oj, oi, h2, h1, g1, g2, g3, g4⟩ := facts p hp
      have hr2 : p.2 ∈ Region.ready .any (addA ex ops) listed := ready_addA.2 ⟨hr, fun q hq hqk => by
        have := exOf_mem hq
        rw [hqk, g2] at this
        simp at this⟩
      obtain ⟨v, hy, hK⟩ := pure_yields g1 hL hQ h2 (wpOp_addA (H.2 p.2 hr2))
      refine wpAny_first h2 hsel (fun c a w h => (hQ _ _ _ h).elim) fuel listed a w (fun k ok hk hne hun hno => (g4 k ok hk hne hno).resolve_left fun ⟨e, he, hb, hek⟩ => ?_) hr hy (ih _ _ _ (by simpa using hls) hK)
      obtain ⟨_, o, ho, hall⟩ := mem_ready.1 hr
      rw [h2] at ho
      cases ho
      have h5 := hall e he hb
      rw [hek] at h5
      have hlt : k < listed.size := by rw [hls]; exact (Array.getElem?_eq_some_iff.1 hk).1
      simp only [Array.getD_eq_getD_getElem?, Array.getElem?_eq_getElem hlt, Option.getD_some] at hun h5
      rw [h5] at hun
      simp at hun
    · have hsub : ∀ k, k ∈ Region.ready .any ops listed → k ∈ Region.ready .any (addA ex ops) listed := fun k hk => by
        refine ready_addA.2 ⟨hk, fun p hp hpk => ?_⟩
        by_cases hun : listed.getD p.2 false = true
        · exact hun
        · exact absurd ⟨p, hp, (hR listed hls k hk p hp hpk hun).2⟩ hex
      refine ⟨fun h0 => H.1 (List.eq_nil_iff_forall_not_mem.2 fun k hk => ?_), fun k hk => ?_⟩
      · have := (ready_addA.1 hk).1
        rw [h0] at this
        simp at this
      · exact wpOp_mono (fun a' w' h => ih _ a' w' (by simpa using hls) h) (wpOp_addA (H.2 k (hsub k hk)))
end
section
variable {P : Program} {E : En}
def hoistT (E : En) (ops : Array Oper) (ex : List (Nat × Nat)) (st : St) : Tr St :=
  bif hoistOk ops ex && edgesOk (addE ex ops.toList 0) 0 then regT E true (addE ex ops.toList 0) (needs (addE ex ops.toList 0) []) (addE ex ops.toList 0) 0 st [] else .fail
theorem hoist_sem (hT : TTok P E) (hga : GAok P E) (hm : P.follows .mixedOrders = true) {id : Nat} {ops : Array Oper} {ex : List (Nat × Nat)} : RegSem P E (.region id ops true) (hoistT E ops ex) := by
  intro cx a w st st' h hrun
  have hW := wsound hT hga
  unfold hoistT at hrun
  cases hc : hoistOk ops ex && edgesOk (addE ex ops.toList 0) 0 with
  | false => rw [hc] at hrun; simp [Tr.run] at hrun
  | true =>
    rw [hc] at hrun
    simp only [cond_true] at hrun
    simp only [Bool.and_eq_true] at hc
    obtain ⟨hok, hed⟩ := hc
    obtain ⟨h1, h2, Z, g, h3⟩ := h
    refine wp_region_any hm ?_
    refine hoist hok (fun ⟨a, w, hq⟩ => hq) (fun c a w hq => hq) ops.size _ a _ (by simp) ?_
    have e1 : (addA ex ops).toList = addE ex ops.toList 0 := by simp [addA]
    have hs := addA_size ex ops
    rw [← e1] at hrun hed
    obtain ⟨i1, bsF, k1, k2, k3, k4, k5, k6, k7, k8⟩ := regT_seg (ops := addA ex ops) (ns := needs (addA ex ops).toList []) (i0 := 0) hT hga h1 _ 0 rfl (Nat.zero_le _) (Nat.le_refl _) [] st' ⟨trivial, h1.MB, fun e he => by simp at he, fun _ _ _ _ he => by simp at he⟩ hrun
    refine reg_any (ops := addA ex ops) (cx := cx) (Q := QO cx E (.nrm st')) hT hga hW hed (stF := st') (fun Z g a w hr hn hs => ⟨hn, hs, Z, g, hr⟩) ops.size (Array.replicate ops.size false) 0 0 i1 st bsF a _ Z g (by simp [hs]) (fun k hk => ?_) (by rw [hs, cnt_zero]; exact Nat.le_refl _) (fun k hk => by omega) (fun k _ => Nat.zero_testBit k) (fun k hk => by rw [Nat.zero_testBit] at hk; simp at hk) k1 h1 k2 (fun e he => ⟨(k4 e he).1, (k4 e he).2.1⟩) k5 k7 k8 ?_ h2
    · rw [Nat.zero_testBit]
      rw [hs] at hk
      simp [Array.getD_eq_getD_getElem?, hk]
    · rw [view_none fun e _ => Nat.zero_testBit _]
      exact h3.world rfl rfl rfl rfl
theorem hoist_of (hT : TTok P E) (hga : GAok P E) (hm : P.follows .mixedOrders = true) {c : Code} {id : Nat} {ex : List (Nat × Nat)} (h : c = .region id (opsOf c) true) : RegSem P E c (hoistT E (opsOf c) ex) := by
  rw [h]
  exact hoist_sem hT hga hm
end
end Go.Av
namespace Go.Av
open Go.RowKit (Below)
theorem cnt_low : ∀ n i, cnt n (2 ^ i - 1) = n - i
  | 0, i => by simp [cnt]
  | n + 1, i => by
    rw [cnt, cnt_low n i, low_bits]
    by_cases h : n < i
    · simp only [h, decide_true]; omega
    · simp only [h, decide_false]; omega
section
variable {P : Program} {E : En} {ops : Array Oper} {cx : Cx} {Q : Exit → Act → World → Prop}
theorem tail_any (hed : edgesOk ops.toList 0 = true) : ∀ (n i : Nat) (listed : Array Bool) (fuel : Nat) (a : Act) (w : World), i + n = ops.size → listed.size = ops.size → (∀ k, k < ops.size → listed.getD k false = decide (k < i)) → n ≤ fuel →
    (∀ k, i < k → k < ops.size → ∃ o e, ops[k]? = some o ∧ e ∈ o.after ∧ bindsAny e = true ∧ e.on = k - 1) → wpOps P ops Q (List.range' i n) a w → wpAny P .any ops Q fuel listed a w
  | 0, i, listed, fuel, a, w, hi, hls, hl, hf, hch, h => by
    have hr : Region.ready .any ops listed = [] := List.eq_nil_iff_forall_not_mem.2 fun k hk => by
      obtain ⟨h0, o, ho, _⟩ := mem_ready.1 hk
      have hlt : k < ops.size := (Array.getElem?_eq_some_iff.1 ho).1
      have := hl k hlt
      rw [decide_eq_true (by omega)] at this
      simp [Array.getD_eq_getD_getElem?, hls, hlt] at h0 this
      rw [h0] at this
      simp at this
    have h : Q .normal a w := h
    cases fuel with
    | zero => exact ⟨hr, h⟩
    | succ fuel => exact ⟨fun _ => h, fun k hk => by rw [hr] at hk; simp at hk⟩
  | n + 1, i, listed, fuel, a, w, hi, hls, hl, hf, hch, h => by
    obtain ⟨fuel, rfl⟩ : ∃ f, fuel = f + 1 := ⟨fuel - 1, by omega⟩
    rw [List.range'_succ, wpOps_cons] at h
    have hil : i < ops.size := by omega
    have hri : i ∈ Region.ready .any ops listed := by
      refine mem_ready.2 ⟨?_, ops[i], by simp [hil], fun e he hb => ?_⟩
      · have := hl i hil
        rw [decide_eq_false (by omega)] at this
        simp [Array.getD_eq_getD_getElem?, hls, hil] at this ⊢
        exact this
      · have := edgesOk_spec ops.toList 0 hed i ops[i] (by rw [Array.getElem?_toList]; simp [hil]) e (Array.mem_toList_iff.2 he) hb
        rw [hl e.on (by omega)]
        exact decide_eq_true (by omega)
    refine ⟨fun h0 => by rw [h0] at hri; simp at hri, fun k hk => ?_⟩
    have hki : k = i := by
      obtain ⟨h0, o, ho, hall⟩ := mem_ready.1 hk
      have hlt : k < ops.size := (Array.getElem?_eq_some_iff.1 ho).1
      have hge : i ≤ k := by
        have := hl k hlt
        rcases Nat.lt_or_ge k i with hh | hh
        · rw [decide_eq_true hh] at this
          simp [Array.getD_eq_getD_getElem?, hls, hlt] at h0 this
          rw [h0] at this
          simp at this
        · exact hh
      rcases Nat.lt_or_ge i k with hh | hh
      · obtain ⟨o', e, ho', he, hb, hon⟩ := hch k hh hlt
        rw [ho] at ho'
        cases ho'
        have := hall e he hb
        rw [hon, hl (k - 1) (by omega)] at this
        have := of_decide_eq_true this
        omega
      · omega
    subst hki
    refine wpOp_mono (fun a' w' h' => tail_any hed n (k + 1) _ fuel a' w' (by omega) (by simpa using hls) (fun j hj => ?_) (by omega) (fun j hj hj2 => hch j (by omega) hj2) h') h
    by_cases e : k = j
    · subst e
      simp [Array.getD_eq_getD_getElem?, hls, hj]
    · rw [getD_set_ne false e, hl j hj]
      congr 1
      exact propext ⟨fun h => by omega, fun h => by omega⟩
theorem reg_pre (hed : edgesOk ops.toList 0 = true) {i1 : Nat} (hi1 : i1 < ops.size) {base : St} {bsF : Bd} (hstep : ∀ j, j < i1 → StepOK P E ops (needs ops.toList []) base bsF 0 j)
    (hneed : ∀ j, j < i1 → ((needs ops.toList []).getD i1 0).testBit j = true) (hch : ∀ k, i1 < k → k < ops.size → ∃ o e, ops[k]? = some o ∧ e ∈ o.after ∧ bindsAny e = true ∧ e.on = k - 1)
    (hend : ∀ (a : Act) (w : World) (Z : Nat → Prop) (g : Gh), Rel cx Z g (view base (2 ^ i1 - 1) bsF) a w → Fit cx E a → wpOps P ops Q (List.range' i1 (ops.size - i1)) a w) :
    ∀ (fuel : Nat) (listed : Array Bool) (S : Nat) (a : Act) (w : World) (Z : Nat → Prop) (g : Gh), listed.size = ops.size → (∀ k, k < ops.size → listed.getD k false = S.testBit k) → (∀ k, i1 ≤ k → S.testBit k = false) → cnt ops.size S ≤ fuel →
      (∀ k, S.testBit k = true → ∀ b, ((needs ops.toList []).getD k 0).testBit b = true → S.testBit b = true) → Rel cx Z g (view base S bsF) a w → Fit cx E a → wpAny P .any ops Q fuel listed a w := by
  have hlen : (needs ops.toList []).length = ops.size := by rw [needs_len]; simp
  have full : ∀ (fuel : Nat) (listed : Array Bool) (S : Nat) (a : Act) (w : World) (Z : Nat → Prop) (g : Gh), listed.size = ops.size → (∀ k, k < ops.size → listed.getD k false = S.testBit k) → (∀ k, i1 ≤ k → S.testBit k = false) → cnt ops.size S ≤ fuel → (∀ k, k < i1 → S.testBit k = true) → Rel cx Z g (view base S bsF) a w → Fit cx E a → wpAny P .any ops Q fuel listed a w := by
    intro fuel listed S a w Z g hls hS hhi hfuel hlo h hsz
    have e : S = 2 ^ i1 - 1 := by
      apply Nat.eq_of_testBit_eq
      intro k
      rw [low_bits]
      by_cases hk : k < i1
      · simp [hk, hlo k hk]
      · simp [hk, hhi k (by omega)]
    subst e
    rw [cnt_low] at hfuel
    exact tail_any hed (ops.size - i1) i1 listed fuel a w (by omega) hls (fun k hk => by rw [hS k hk, low_bits]) hfuel hch (hend a w Z g h hsz)
  intro fuel
  induction fuel with
  | zero =>
    intro listed S a w Z g hls hS hhi hfuel hcl h hsz
    have := cnt_all _ _ (Nat.le_zero.1 hfuel) i1 hi1
    rw [hhi i1 (Nat.le_refl _)] at this
    simp at this
  | succ fuel ih =>
    intro listed S a w Z g hls hS hhi hfuel hcl h hsz
    by_cases hlo : ∀ k, k < i1 → S.testBit k = true
    · exact full (fuel + 1) listed S a w Z g hls hS hhi hfuel hlo h hsz
    have hmask : ∀ j, j ∈ Region.ready .any ops listed → j < ops.size ∧ S.testBit j = false ∧ ∀ b, ((needs ops.toList []).getD j 0).testBit b = true → S.testBit b = true := by
      intro j hj
      obtain ⟨hj0, o, ho, he⟩ := mem_ready.1 hj
      have hlt : j < ops.size := (Array.getElem?_eq_some_iff.1 ho).1
      refine ⟨hlt, ?_, fun b hbit => ?_⟩
      · rw [← hS j hlt]
        simp [Array.getD_eq_getD_getElem?, hls, hlt] at hj0 ⊢
        exact hj0
      · obtain ⟨e, h1, h2, h3⟩ := needs_bit ops.toList [] j o b (by rw [Array.getElem?_toList]; exact ho) (by simpa using hbit)
        have hl := he e (Array.mem_toList_iff.1 h1) h2
        have hon : e.on < ops.size := by
          rcases Nat.lt_or_ge e.on ops.size with hh | hh
          · exact hh
          · simp [Array.getD_eq_getD_getElem?, hls, hh] at hl
        rw [hS _ hon] at hl
        rcases h3 with h3 | ⟨_, h3⟩
        · rw [← h3]; exact hl
        · exact hcl _ hl b h3
    have hnext : ∀ k, k < ops.size → S.testBit k = false → ∃ j, j ∈ Region.ready .any ops listed := by
      intro k
      induction k using Nat.strongRecOn with
      | _ k ihk =>
        intro hk hkS
        obtain ⟨o, ho⟩ : ∃ o, ops[k]? = some o := ⟨ops[k], by simp [hk]⟩
        by_cases hall : ∀ e ∈ o.after, Region.binds .any e = true → listed.getD e.on false = true
        · refine ⟨k, mem_ready.2 ⟨?_, o, ho, hall⟩⟩
          have := hS k hk
          rw [hkS] at this
          simp [Array.getD_eq_getD_getElem?, hls, hk] at this ⊢
          exact this
        · simp only [Classical.not_forall] at hall
          obtain ⟨e, he, hbe, hnl⟩ := hall
          have hon := edgesOk_spec ops.toList 0 hed k o (by rw [Array.getElem?_toList]; exact ho) e (Array.mem_toList_iff.2 he) hbe
          rw [Nat.zero_add] at hon
          have hon' : e.on < ops.size := Nat.lt_trans hon hk
          refine ihk e.on hon hon' ?_
          rw [← hS _ hon']
          simpa using hnl
    have hlt1 : ∀ j, j ∈ Region.ready .any ops listed → j < i1 := fun j hj => by
      obtain ⟨m1, m2, m3⟩ := hmask j hj
      rcases Nat.lt_or_ge j i1 with hh | hh
      · exact hh
      · exfalso
        apply hlo
        rcases Nat.lt_or_ge i1 j with h2 | h2
        ·
          obtain ⟨o, e, ho, he, hb, hon⟩ := hch j h2 m1
          obtain ⟨_, o', ho', hall⟩ := mem_ready.1 hj
          rw [ho] at ho'
          cases ho'
          have := hall e he hb
          rw [hon, hS _ (by omega), hhi _ (by omega)] at this
          simp at this
        · have : j = i1 := by omega
          subst this
          exact fun k hk => m3 k (hneed k hk)
    refine ⟨fun h0 => ?_, fun j hj => ?_⟩
    · obtain ⟨j, hj⟩ := hnext i1 hi1 (hhi i1 (Nat.le_refl _))
      rw [h0] at hj
      simp at hj
    · obtain ⟨m1, m2, m3⟩ := hmask j hj
      have hj1 := hlt1 j hj
      refine hstep j hj1 cx S a w Z g _ _ (fun k _ hk hb => ?_) m2 h hsz fun Z' g' a' w' hr' hsz' => ?_
      · refine m3 k ?_
        rw [List.getD_eq_getElem?_getD] at hb ⊢
        rw [List.getElem?_eq_getElem (by rw [hlen]; omega)] at hb ⊢
        exact hb
      · refine ih (listed.setIfInBounds j true) (S ||| 2 ^ j) a' w' Z' g' (by simpa using hls) (fun k hk => ?_) (fun k hk => ?_) ?_ (fun k hk b hb => ?_) hr' hsz'
        · rw [testBit_or_pow]
          by_cases e : j = k
          · subst e
            simp [Array.getD_eq_getD_getElem?, hls, hk]
          · rw [getD_set_ne false e, hS k hk]
            simp [e]
        · rw [testBit_or_pow, hhi k hk]
          simp; omega
        · have := cnt_set ops.size j S m2
          rw [if_pos m1] at this
          omega
        · rw [testBit_or_pow] at hk ⊢
          simp only [Bool.or_eq_true, decide_eq_true_eq] at hk ⊢
          rcases hk with hk | rfl
          · exact .inl (hcl k hk b hb)
          · exact .inl (m3 b hb)
end
end Go.Av
namespace Go.Av
open Go.RowKit (Below)
section
variable {P : Program} {w w' : World}
theorem append_in {t t2 ty : TypeId} {e : TypeId} {te : TI} {ats : Array TypeId} {d2 : TypeDesc} (hu : P.underlying t = some (.slice e)) (hTe : TIok P e te) (hu2 : P.underlying t2 = some d2) (hd2 : ∀ k, d2 ≠ .int k) (hat : ats[0]? = some t) (hat2 : ats[1]? = some t2) (hby : 0 < te.bytes)
    {xs : T (.sl e te.ks)} {ys : List (Tl te.ks)} {v0 vy : Value} {F FH : Nat → Prop} {news : List Value} {H : Nat → Nat → Nat → Prop} (hx : Own w (.sl e te.ks) xs v0 F) (hr : NewRows w te.ks ys news H FH) (hl : (Builtin.lenOf vy).run P w = .ok ys.length w)
    (hcl : ∀ w1 : World, w1.heap = w.heap → (Builtin.firstCells te.ks.length ys.length vy).run P w1 = .ok news.toArray w1) (hlt : ∀ q, F q ∨ FH q → q < w.heap.size) (hdj : ∀ q, FH q → ¬ F q) (hbytes : ((els xs).length + ys.length) * te.bytes ≤ big) :
    ∃ v' w' F', (Builtin.append_ ats ty #[v0, vy]).run P w = .ok v' w' ∧ w'.os = w.os ∧ w'.tape = w.tape ∧ w'.output = w.output ∧ w.heap.size ≤ w'.heap.size ∧ (∀ q, q < w.heap.size → ¬ F q → w'.heap[q]? = w.heap[q]?) ∧ (∀ q, F' q → q < w'.heap.size ∧ (F q ∨ FH q ∨ w.heap.size ≤ q)) ∧ v'.oneCell' = true ∧
      Own w' (.sl e te.ks) (cat te.ks (els xs) ys) v' F' := by
  have hbig : (els xs).length + ys.length ≤ big := Nat.le_trans (Nat.le_mul_of_pos_right _ hby) hbytes
  obtain ⟨base, cap, rfl, c1, c2, c3, c4⟩ := hx
  have hnl := hr.len
  by_cases hfit : (els xs).length + ys.length ≤ cap
  · cases base with
    | none =>
      have hcap := c3 rfl
      have hx0 : els xs = [] := List.length_eq_zero_iff.1 (by omega)
      have hy0 : ys = [] := List.length_eq_zero_iff.1 (by omega)
      refine ⟨.slice none 0 0, w, fun _ => False, ?_, rfl, rfl, rfl, Nat.le_refl _, fun _ _ _ => rfl, fun q hq => hq.elim, rfl, ?_⟩
      · rw [hx0, hcap]
        refine append_nil (news := news) hu hTe hu2 hd2 hat hat2 ?_ ?_
        · rw [hy0] at hl; exact hl
        · have := hcl w rfl; rw [hy0] at this; exact this
      · rw [hx0, hy0]
        exact Own_nil _ _
    | some aa =>
      obtain ⟨b, of, cs, el, fr, rfl, n2, n3, n4, n5, G, n6, n7, n8⟩ := c4 _ rfl
      obtain ⟨s1, s2, s3, s4, s5, s6⟩ := setCells_heap b news (of + (els xs).length * te.ks.length) w cs el fr n3
      have hroom : of + (els xs).length * te.ks.length + news.length ≤ cs.size := by
        have := Nat.mul_le_mul_right te.ks.length hfit
        rw [Nat.add_mul] at this
        omega
      refine ⟨.slice (some ⟨b, of, none⟩) ((els xs).length + ys.length) cap, w.setCells b (of + (els xs).length * te.ks.length) news, fun q => F q ∨ FH q, append_fits hu hTe hu2 hd2 hat hat2 hl (hcl w rfl) hfit hr.one (fun j hj => ⟨cs, el, fr, n3, by omega, n4 _ (by omega)⟩), s4, s5, s6, by rw [s3]; exact Nat.le_refl _, fun q _ hq => s2 q fun e => hq (by rw [e]; exact n2), fun q hq => ?_, rfl, ?_⟩
      · rw [s3]
        refine ⟨hlt q hq, ?_⟩
        rcases hq with hq | hq
        · exact .inl hq
        · exact .inr (.inl hq)
      · refine own_cat (w := w) (b0 := b) (F := F) n6 n7 n8 hr (fun q hq => ⟨hdj q hq, fun e => hdj q hq (by rw [e]; exact n2)⟩) s1 (fun q hq => n4 q (by rw [setFrom_size] at hq; exact hq)) (.inl n2) (fun q hq _ => .inl hq) (fun q hq => .inr hq) (fun i j q hq => (n6 i j q hq).2) (fun q hq e => hdj q hq (by rw [e]; exact n2)) (fun q hq h1 _ => s2 q h1) (fun q hq => ?_) (fun q hq => ?_) hfit (by rw [setFrom_size]; exact n5) hbig
        · rw [setFrom_get _ _ _ _ hroom, if_neg (by omega)]
        · rw [setFrom_get _ _ _ _ hroom, if_pos (by omega)]
          congr 1
          omega
  · have hgrow : cap < (els xs).length + ys.length := by omega
    have hge := grownCap_ge w ((els xs).length + ys.length) cap e
    have hnot : ∀ q, F q ∨ FH q → q ≠ w.heap.size := fun q hq e => by
      have := hlt q hq
      omega
    have olds : ∃ (olds : List Value) (b0 : Nat) (cs : Array Value) (of : Nat) (G : Nat → Nat → Nat → Prop), (Builtin.firstCells te.ks.length (els xs).length (.slice base (els xs).length cap)).run P w.drew = .ok olds.toArray w.drew ∧ olds.length = (els xs).length * te.ks.length ∧ (∀ q, q < (els xs).length * te.ks.length → olds[q]? = cs[of + q]?) ∧
        (∀ i j b, G i j b → F b ∧ b ≠ b0) ∧ (∀ i j i' j' b, G i j b → G i' j' b → i = i' ∧ j = j') ∧ (∀ i x, (els xs)[i]? = some x → Ownl w te.ks x 0 (G i) cs (of + i * te.ks.length)) ∧ (∀ q, FH q → q ≠ b0) := by
      cases base with
      | none =>
        have hcap := c3 rfl
        have hx0 : els xs = [] := List.length_eq_zero_iff.1 (by omega)
        refine ⟨[], w.heap.size, #[], 0, fun _ _ _ => False, ?_, by rw [hx0]; simp, fun q hq => by rw [hx0] at hq; simp at hq, fun _ _ _ h => h.elim, fun _ _ _ _ _ h => h.elim, fun i x hi => by rw [hx0] at hi; simp at hi, fun q hq => hnot q (.inr hq)⟩
        exact run_firstCells_none (P := P) w.drew _ _ _ _
      | some aa =>
        obtain ⟨b, of, cs, el, fr, rfl, n2, n3, n4, n5, G, n6, n7, n8⟩ := c4 _ rfl
        have hbound : ∀ q, q < (els xs).length * te.ks.length → of + q < cs.size := fun q hq => by
          have := Nat.mul_le_mul_right te.ks.length c1
          omega
        have hnl' : ∀ q, q < (els xs).length * te.ks.length → ((List.range ((els xs).length * te.ks.length)).map fun q => cs.getD (of + q) undef)[q]? = cs[of + q]? := fun q hq => by
          have := hbound q hq
          simp [hq, this]
        refine ⟨(List.range ((els xs).length * te.ks.length)).map fun q => cs.getD (of + q) undef, b, cs, of, G, ?_, by simp, hnl', n6, n7, n8, fun q hq e => hdj q hq (by rw [e]; exact n2)⟩
        refine run_firstCells_some (P := P) w.drew _ _ ⟨b, of, none⟩ _ _ _ (by simp) fun j v hj => ?_
        have hjl : j < (els xs).length * te.ks.length := by
          rcases Nat.lt_or_ge j ((els xs).length * te.ks.length) with hh | hh
          · exact hh
          · rw [List.getElem?_eq_none (by simpa using hh)] at hj; simp at hj
        rw [hnl' j hjl] at hj
        rw [add_mk]
        have n3' : w.drew.heap[b]? = some (.cells cs el fr) := n3
        simp only [World.cell?, n3']
        exact hj
    obtain ⟨olds, b0, cs, of, G, r1, r2, r3, r4, r5, r6, r7⟩ := olds
    obtain ⟨zs, z1, z2⟩ := append_grows (P := P) (ty := ty) (vx := vy) hu hTe hu2 hd2 hat hat2 hl r1 (hcl w.drew rfl) hgrow hby hbytes
    have hheap : (w.drew.alloc (.cells (olds.toArray ++ news.toArray ++ zs) e (0, 0))).heap = w.heap.push (.cells (olds.toArray ++ news.toArray ++ zs) e (0, 0)) := rfl
    have hsize : (w.drew.alloc (.cells (olds.toArray ++ news.toArray ++ zs) e (0, 0))).heap.size = w.heap.size + 1 := by rw [hheap, Array.size_push]
    have hold : ∀ q, q < w.heap.size → (w.drew.alloc (.cells (olds.toArray ++ news.toArray ++ zs) e (0, 0))).heap[q]? = w.heap[q]? := fun q hq => by rw [hheap, Array.getElem?_push, if_neg (by omega)]
    refine ⟨.slice (some ⟨w.heap.size, 0, none⟩) ((els xs).length + ys.length) (grownCap w ((els xs).length + ys.length) cap e), w.drew.alloc (.cells (olds.toArray ++ news.toArray ++ zs) e (0, 0)), fun q => (F q ∨ FH q) ∨ q = w.heap.size, z2, rfl, rfl, rfl, by rw [hsize]; omega, fun q hq _ => hold q hq, fun q hq => ?_, rfl, ?_⟩
    · rw [hsize]
      rcases hq with hq | rfl
      · refine ⟨by have := hlt q hq; omega, ?_⟩
        rcases hq with hq | hq
        · exact .inl hq
        · exact .inr (.inl hq)
      · exact ⟨by omega, .inr (.inr (Nat.le_refl _))⟩
    · refine own_cat (w := w) (b0 := b0) (F := F) r4 r5 r6 hr (fun q hq => ⟨hdj q hq, r7 q hq⟩) (el := e) (fr := (0, 0)) (cs' := olds.toArray ++ news.toArray ++ zs) (by rw [hheap, Array.getElem?_push, if_pos rfl]) (by simp) (.inr rfl) (fun q hq _ => .inl (.inl hq)) (fun q hq => .inl (.inr hq)) (fun i j q hq => hnot q (.inl (r4 i j q hq).1)) (fun q hq => hnot q (.inr hq)) (fun q hq _ _ => hold q hq) (fun q hq => ?_) (fun q hq => ?_) hge ?_ hbig
      · rw [← r3 q hq, Nat.zero_add, Array.append_assoc, Array.getElem?_append_left (by simp; omega)]
        simp
      · rw [Nat.zero_add, Array.append_assoc, Array.getElem?_append_right (by simp; omega), Array.getElem?_append_left (by simp; omega)]
        simp only [List.size_toArray, r2, Nat.add_sub_cancel_left, List.getElem?_toArray]
      · have e1 : (olds.toArray ++ news.toArray ++ zs).size = olds.length + news.length + zs.size := by simp
        rw [e1, r2, hnl, z1, Nat.zero_add, ← Nat.add_mul, ← Nat.add_mul]
        exact Nat.mul_le_mul_right _ (by omega)
theorem own_hole2 {e : TypeId} {ks : List K} {xs : T (.sl e ks)} {b o l cap : Nat} {F : Nat → Prop} (h : Own w (.sl e ks) xs (.slice (some ⟨b, o, none⟩) l cap) F) {i c : Nat} (hi : i < (els xs).length) {k : K} {y : T k} (hc : cellAt ks (elAt xs i) c = some ⟨k, y⟩) :
    ∃ v Fi cs el fr, w.cell? ⟨b, o + i * ks.length + c, none⟩ = some v ∧ Own w k y v Fi ∧ (∀ q, Fi q → F q ∧ q ≠ b) ∧ F b ∧ l = (els xs).length ∧ w.heap[b]? = some (.cells cs el fr) ∧ o + i * ks.length + c < cs.size ∧ (∀ q, q < cs.size → ¬ (fr.1 ≤ q ∧ q < fr.2)) ∧
      ∀ (w' : World) (v' : Value) (y' : T k) (z : Tl ks) (F' : Nat → Prop) (cs' : Array Value), setAt ks (elAt xs i) c k y' = some z → Own w' k y' v' F' → (∀ q, F' q → F q → Fi q) → w'.heap[b]? = some (.cells cs' el fr) → cs'.size = cs.size → cs'[o + i * ks.length + c]? = some v' → (∀ q, q ≠ o + i * ks.length + c → cs'[q]? = cs[q]?) →
        (∀ q, q < w.heap.size → q ≠ b → F q → ¬ Fi q → w'.heap[q]? = w.heap[q]?) → (∀ q, F q → q < w.heap.size) →
        Own w' (.sl e ks) (List.set (els xs) i z) (.slice (some ⟨b, o, none⟩) l cap) (fun q => (F q ∧ ¬ Fi q) ∨ F' q) := by
  obtain ⟨a', c0, h1, h2, h3, h4, h5⟩ := h
  simp only [Value.slice.injEq] at h1
  obtain ⟨rfl, rfl, rfl⟩ := h1
  obtain ⟨b', o', cs, el, fr, g1, g2, g3, g4, g5, G, g6, g7, g8⟩ := h5 _ rfl
  simp only [Addr.mk.injEq, and_true] at g1
  obtain ⟨rfl, rfl⟩ := g1
  obtain ⟨v, hv1, hv2⟩ := Ownl_cell ks _ 0 (G i) cs _ c k y (g8 i _ (elAt_get xs hi)) hc
  rw [Nat.zero_add] at hv2
  have hin : o + i * ks.length + c < cs.size := by
    rcases Nat.lt_or_ge (o + i * ks.length + c) cs.size with hh | hh
    · exact hh
    · rw [Array.getElem?_eq_none hh] at hv1; simp at hv1
  refine ⟨v, G i c, cs, el, fr, ?_, hv2, fun q hq => g6 i c q hq, g2, rfl, g3, hin, fun q hq => g4 q (Nat.lt_add_right _ hq), fun w' v' y' z F' cs' hz ho hF' hb' hs' hv' hcs' hw hlt => ?_⟩
  · simp only [World.cell?, g3, Option.isSome_none, Bool.false_eq_true, if_false]
    exact hv1
  · have hlen : (els (e := e) (ks := ks) (List.set (els xs) i z)).length = (els xs).length := List.length_set ..
    have hbG : ¬ G i c b := fun hh => (g6 i c b hh).2 rfl
    have hcl := setAt_lt _ _ _ _ _ _ hz
    refine ⟨_, cap, by rw [hlen], by rw [hlen]; exact h2, by rw [hlen]; exact h3, h4, fun a'' ha'' => ?_⟩
    simp only [Option.some.injEq] at ha''
    subst ha''
    refine ⟨b, o, cs', el, fr, rfl, .inl ⟨g2, hbG⟩, hb', by rw [hs']; exact g4, by rw [hs']; exact g5, fun i' j' q => if i' = i ∧ j' = c then F' q else G i' j' q, fun i' j' q hq => ?_, fun i1 j1 i2 j2 q hq1 hq2 => ?_, fun i' x hx => ?_⟩
    · dsimp only at hq
      split at hq
      · refine ⟨.inr hq, fun e => ?_⟩
        subst e
        exact hbG (hF' q hq g2)
      · rename_i hne
        refine ⟨.inl ⟨(g6 i' j' q hq).1, fun hh => hne ?_⟩, (g6 i' j' q hq).2⟩
        exact g7 i' j' i c q hq hh
    · dsimp only at hq1 hq2
      have cross : ∀ i1 j1, ¬ (i1 = i ∧ j1 = c) → G i1 j1 q → F' q → False := fun i1 j1 hne hG hF => by
        exact hne (g7 i1 j1 i c q hG (hF' q hF (g6 i1 j1 q hG).1))
      by_cases e1 : i1 = i ∧ j1 = c
      · rw [if_pos e1] at hq1
        by_cases e2 : i2 = i ∧ j2 = c
        · exact ⟨e1.1.trans e2.1.symm, e1.2.trans e2.2.symm⟩
        · rw [if_neg e2] at hq2; exact (cross i2 j2 e2 hq2 hq1).elim
      · rw [if_neg e1] at hq1
        by_cases e2 : i2 = i ∧ j2 = c
        · rw [if_pos e2] at hq2; exact (cross i1 j1 e1 hq1 hq2).elim
        · rw [if_neg e2] at hq2; exact g7 _ _ _ _ q hq1 hq2
    · have hx' : (List.set (els xs) i z)[i']? = some x := hx
      rw [List.getElem?_set] at hx'
      by_cases ei : i = i'
      · subst ei
        rw [if_pos rfl, if_pos hi] at hx'
        simp only [Option.some.injEq] at hx'
        subst hx'
        refine Ownl_set ks (elAt xs i) c k y' z 0 (G i) _ F' cs cs' _ v' hz ho hv' (fun q hq hne => hcs' _ (by omega)) (fun q p hne hp => ?_) (fun p hp => ?_) (fun q p hne hp _ => ?_) (g8 i _ (elAt_get xs hi))
        · show (if i = i ∧ q = c then F' p else G i q p)
          rw [if_neg (fun e => hne (by omega))]; exact hp
        · show (if i = i ∧ 0 + c = c then F' p else G i (0 + c) p)
          rw [if_pos ⟨rfl, by omega⟩]; exact hp
        · exact hw p (hlt p (g6 i q p hp).1) (g6 i q p hp).2 (g6 i q p hp).1 fun hh => hne (by have := (g7 i q i c p hp hh).2; omega)
      · rw [if_neg ei] at hx'
        have hil' : i' < (els xs).length := (List.getElem?_eq_some_iff.1 hx').1
        refine Ownl_move ks x 0 (G i') _ cs cs' _ _ (fun q hq => hcs' _ ?_) (fun j q hq => ?_) (fun j q hq _ => ?_) (g8 i' x hx')
        · intro he
          have e1 : i' * ks.length + q = i * ks.length + c := by omega
          rcases Nat.lt_or_ge i i' with hh | hh
          · have := Nat.mul_le_mul_right ks.length (show i + 1 ≤ i' from hh)
            rw [Nat.add_mul, Nat.one_mul] at this; omega
          · have := Nat.mul_le_mul_right ks.length (show i' + 1 ≤ i by omega)
            rw [Nat.add_mul, Nat.one_mul] at this; omega
        · show (if i' = i ∧ j = c then F' q else G i' j q)
          rw [if_neg (fun e => ei e.1.symm)]; exact hq
        · exact hw q (hlt q (g6 i' j q hq).1) (g6 i' j q hq).2 (g6 i' j q hq).1 fun hh => ei (g7 i' j i c q hq hh).1.symm
end
end Go.Av
namespace Go.Av
open Go.RowKit (Below)
def idxIs (i : Int) (len n : Nat) : Bool := idxOk i len && Nat.beq i.toNat n
def atB {α : Type} (i : Int) (xs : List α) (n : Int) : Bool := idxIs i xs.length n.toNat
def appEnd (dA dI dF : Nat) (st : St) : St := ((st.bindT dA (.v .dead, none)).bindT dI (.v .dead, none)).bindT dF (.v .dead, none)
def appElT (E : En) (v : St) (t t2 : Nat) (x y : Operand) (tI : Nat) (b : Nat) (i : Operand) (tF f tS dA dI dF : Nat) : Tr St :=
  Tr.ofO (E.ti t) fun ti => Tr.ofO (E.sl t) fun te => Tr.ofO (E.sl tI) fun tn => Tr.ofO (E.ti tF) fun tf => Tr.ofO (fld tf.flds f) fun p => Tr.ofO (E.ti tS) fun ts =>
  Tr.ofO (v.get y) fun ty => Tr.ofO (v.get i) fun tv => Tr.ofO tv.int? fun pi =>
  match v.get x, v.get (.tmp b) with
  | some (.v (.pref r j s m n q)), some (.v (.ref r' j' s')) =>
    Tr.ofO (v.news ti.elem te.ks ty) fun w => (match w.1.cell r j with
      | some ⟨s1, m1, .own (.sl e ks) xs⟩ => Tr.ofO (cellAt ks (elAt xs n) q) fun c => Tr.ofO (castK c.1 (.sl ti.elem te.ks) c.2) fun y0 => Tr.ofO (setAt ks (elAt xs n) q (.sl ti.elem te.ks) (cat te.ks (els y0) w.2)) fun z =>
        bif (Nat.beq r r' && (Nat.beq j j' && (Nat.beq s s' && (Nat.beq s1 s && Nat.beq m1 m)))) && ((Nat.beq p.1 q && (tf.agg && (Nat.beq ks.length tn.ks.length && (Nat.beq ts.ks.length 1 && (Nat.blt 0 te.bytes && (E.str t2 || (E.sl t2).isSome)))))))
        then .need (Nat.ble (((els y0).length + w.2.length) * te.bytes) big) (.need (idxIs pi.2 (els xs).length n)
          (.ret (appEnd dA dI dF (w.1.setCell r j ⟨s, m + 1, .own (.sl e ks) (List.set (els xs) n z)⟩))))
        else .fail
      | _ => .fail)
  | _, _ => .fail
def neTmp (d : Nat) : Operand → Bool
  | .tmp t => !Nat.beq t d
  | _ => true
theorem neTmp_ne {d : Nat} {x : Operand} (h : neTmp d x = true) : ∀ d', some d = some d' → x ≠ .tmp d' := by
  rintro d' e rfl
  cases e
  simp only [neTmp, Bool.not_eq_true'] at h
  exact Nat.ne_of_beq_eq_false h rfl
section
variable {P : Program} {E : En} {cx : Cx} {Z : Nat → Prop} {g : Gh} {st v : St} {a : Act} {w : World}
theorem eval_put_self {a : Act} {d : Nat} {v : Value} (hd : d < a.tmps.size) : (a.put (some d) v).eval (.tmp d) = v := by
  simp [Act.put, Act.eval, Array.getD_eq_getD_getElem?, hd]
theorem get_tm {st st' : St} (h : st'.tm = st.tm) (o : Operand) : st'.get o = st.get o := by
  cases o with
  | tmp t =>
    show st'.tv t = st.tv t
    unfold St.tv
    rw [h]
  | _ => rfl
theorem appEl_step (hT : TTok P E) (h : Rel cx Z g v a w) (hn : NoMay v) (hsz : Fit cx E a) {ops : Array Oper} {k0 : Nat} {o0 o1 o2 o3 : Oper} (h0 : ops[k0]? = some o0) (h1 : ops[k0 + 1]? = some o1) (h2 : ops[k0 + 2]? = some o2) (h3 : ops[k0 + 3]? = some o3)
    (g0 : o0.guard = none) (g1 : o1.guard = none) (g2 : o2.guard = none) (g3 : o3.guard = none) {dA dI dF : Nat} (d0 : o0.dst = some dA) (d1 : o1.dst = some dI) (d2 : o2.dst = some dF) (d3 : o3.dst = none) (b0 : E.dB dA = true) (b1 : E.dB dI = true) (b2 : E.dB dF = true)
    {c : Call} (p0 : o0.op = .call c) (hcal : c.callee = .builtin .append) {x y : Operand} (hargs : c.args.toList = [x, y]) {t t2 : Nat} {tys : List Nat} (hts : c.argTypes.toList = t :: t2 :: tys)
    {tI b : Nat} {i : Operand} (p1 : o1.op = .indexAddr tI (.tmp b) i) {tF f : Nat} (p2 : o2.op = .fieldAddr tF (.tmp dI) f) {tS : Nat} (p3 : o3.op = .store tS (.tmp dF) (.tmp dA))
    (n1 : neTmp dA (.tmp b) = true) (n2 : neTmp dA i = true) (n3 : Nat.beq dA dI = false) (n4 : Nat.beq dA dF = false)
    {st' : St} (hrun : (appElT E v t t2 x y tI b i tF f tS dA dI dF).run = some st') :
    wpOps P ops (QO cx E (.nrm st')) [k0, k0 + 1, k0 + 2, k0 + 3] a w := by
  have hc := hn.cons.cons
  unfold appElT at hrun
  obtain ⟨ti, hti, hrun⟩ := Tr.run_ofO hrun
  obtain ⟨te, hte, hrun⟩ := Tr.run_ofO hrun
  obtain ⟨tn, htn, hrun⟩ := Tr.run_ofO hrun
  obtain ⟨tf, htf, hrun⟩ := Tr.run_ofO hrun
  obtain ⟨p, hp, hrun⟩ := Tr.run_ofO hrun
  obtain ⟨ts, hts', hrun⟩ := Tr.run_ofO hrun
  obtain ⟨ty, hy, hrun⟩ := Tr.run_ofO hrun
  obtain ⟨tv, hi, hrun⟩ := Tr.run_ofO hrun
  obtain ⟨pi, hpi, hrun⟩ := Tr.run_ofO hrun
  split at hrun
  rotate_left
  · simp [Tr.run] at hrun
  rename_i r j s m n q r' j' s' hx hb
  obtain ⟨⟨st2, ys⟩, hnw, hrun⟩ := Tr.run_ofO hrun
  simp only at hrun
  split at hrun
  rotate_left
  · simp [Tr.run] at hrun
  rename_i s1 m1 e ks xs hcell
  obtain ⟨⟨ck, cy⟩, hca, hrun⟩ := Tr.run_ofO hrun
  obtain ⟨y0, hy0, hrun⟩ := Tr.run_ofO hrun
  obtain ⟨z, hz, hrun⟩ := Tr.run_ofO hrun
  simp only at hy0 hz hrun
  generalize hcond : ((Nat.beq r r' && (Nat.beq j j' && (Nat.beq s s' && (Nat.beq s1 s && Nat.beq m1 m)))) && ((Nat.beq p.1 q && (tf.agg && (Nat.beq ks.length tn.ks.length && (Nat.beq ts.ks.length 1 && (Nat.blt 0 te.bytes && (E.str t2 || (E.sl t2).isSome)))))))) = cond at hrun
  cases cond with
  | false => simp [Tr.run] at hrun
  | true =>
  simp only [cond_true] at hrun
  obtain ⟨hble, hrun⟩ := Tr.run_need hrun
  obtain ⟨hidx, hrun⟩ := Tr.run_need hrun
  simp only [Tr.run, Option.some.injEq] at hrun
  subst hrun
  simp only [Bool.and_eq_true] at hcond
  obtain ⟨⟨c1, c2, c3, c4, c5⟩, c6, hag, c7, c8, hby, hstr⟩ := hcond
  have c1 := beq_eq c1; have c2 := beq_eq c2; have c3 := beq_eq c3; have c4 := beq_eq c4; have c5 := beq_eq c5; have c6 := beq_eq c6; have c7 := beq_eq c7; have c8 := beq_eq c8
  subst c1; subst c2; subst c3; subst c4; subst c5
  have hby : 0 < te.bytes := Nat.lt_of_succ_le (Nat.le_of_ble_eq_true hby)
  have hbytes : ((els y0).length + ys.length) * te.bytes ≤ big := Nat.le_of_ble_eq_true hble
  obtain ⟨rfl, hy0'⟩ := castK_some hy0
  simp only at hy0'
  subst hy0'
  obtain ⟨ks0, q1, q2, q3, q4⟩ := sl_ti hT hte hti
  have hTe := hT _ _ q4
  obtain ⟨tt, ks1, t1, _, _, _, hu⟩ := sl_desc hT hte
  rw [hti] at t1
  simp only [Option.some.injEq] at t1
  subst t1
  obtain ⟨dd2, hu2, hd2⟩ : ∃ d2, P.underlying t2 = some d2 ∧ ∀ k, d2 ≠ .int k := by
    rw [Bool.or_eq_true] at hstr
    rcases hstr with h2 | h2
    · exact ⟨_, str_desc hT h2, fun _ h => by simp at h⟩
    · obtain ⟨te2, h2⟩ := Option.isSome_iff_exists.1 h2
      obtain ⟨_, _, _, _, _, _, hu2⟩ := sl_desc hT h2
      exact ⟨_, hu2, fun _ h => by simp at h⟩
  obtain ⟨tt2, ks2, u1, u2, u3, u4, huI⟩ := sl_desc hT htn
  have hsI := fun w => run_sizeOf' (hT _ tn u4) (P := P) w
  obtain ⟨fs, fi, huF, f1, f2, f3, info, f4, f5⟩ := desc_struct hT htf (o := p.1) (u := p.2) hp hag
  obtain ⟨gg, news, H, FH, mm1, mm2⟩ := news_rel (P := P) h (get_rel h hc hy) hnw
  have htm : st2.tm = v.tm := mm2.tm
  have hn2 : NoMay st2 := fun t tv ht => hn t tv (by rw [← htm]; exact ht)
  have hc2 := hn2.cons.cons
  have rx := get_rel mm1 hc2 (show st2.get x = _ by rw [get_tm htm]; exact hx)
  have rb := get_rel mm1 hc2 (show st2.get (.tmp b) = _ by rw [get_tm htm]; exact hb)
  have ei : a.eval i = .int pi.1 pi.2 := (int?_rel (get_rel h hc hi) (show tv.int? = some (pi.1, pi.2) from hpi)).1
  obtain ⟨cc, x1, x2, x3, x4⟩ := rx
  rw [hcell] at x1
  cases x1
  obtain ⟨e', ks', xs', x5, x6, x7, B, O, L, C, x8, x9⟩ := x4 rfl rfl
  simp only [RV.own.injEq, K.sl.injEq] at x5
  obtain ⟨⟨rfl, rfl⟩, x5⟩ := x5
  cases x5
  obtain ⟨cc, y1, y2, y3⟩ := rb
  rw [hcell] at y1
  cases y1
  have eb : a.eval (.tmp b) = .slice (some ⟨B, O, none⟩) L C := by rw [y3 rfl, x8]
  have hown : Own w (.sl e ks) xs (gg.cv r j) (gg.fp r j) := mm1.cell r j _ hcell
  rw [x8] at hown
  obtain ⟨vv, Fi, cs, el, fr, z1, z2, z3, z4, z5, z6, z7, z8, z9⟩ := own_hole2 hown x6 hca
  rw [x9] at z1
  cases z1
  have hfpl : ∀ b, gg.fp r j b → b < w.heap.size := fun b hb => (mm1.fp r j b hb).1
  obtain ⟨v', w1, F', r1, r2, r3, r4, r5, r6, r7, r8, r9⟩ := append_in (P := P) (ty := o0.type) (ats := c.argTypes) hu hTe hu2 hd2 (by rw [← Array.getElem?_toList, hts]; rfl) (by rw [← Array.getElem?_toList, hts]; rfl) hby z2 mm2.rows mm2.len mm2.cells
    (fun q hq => by
      rcases hq with hq | hq
      · exact hfpl q (z3 q hq).1
      · exact mm2.free.lt q hq) (fun q hq hF => mm2.free.fp q hq r j (z3 q hF).1) hbytes
  rw [wpOps_cons]
  refine wpOp_wop h0 g0 ?_
  have hargs' : c.args = #[x, y] := by rw [← Array.toArray_toList (xs := c.args), hargs]
  have run0 : (execOp a.eval o0).run P w = .ok (.value v') w1 := by
    simp only [execOp, p0, resolve, hcal, hargs', Sem.run_bind, Sem.run_pure, Result.andThen_ok, invoke, builtin, List.map_toArray, List.map_cons, List.map_nil, r1]
  unfold Oper.wp
  rw [run0, Oper.upon_value, d0]
  rw [wpOps_cons]
  refine wpOp_wop h1 g1 ?_
  simp only [idxIs, Bool.and_eq_true] at hidx
  obtain ⟨i0, i1, i2⟩ := idxOk_spec hidx.1
  have i3 := beq_eq hidx.2
  have run1 : (execOp (a.put (some dA) v').eval o1).run P w1 = .ok (.value (.pointer (some ⟨B, O + n * ks.length, none⟩))) w1 := by
    have := indexAt_run (P := P) (w := w1) huI hsI (b := B) (o := O) (len := L) (cap := C) (k := pi.1) (n := pi.2) i0 (by rw [z5]; exact i1)
    rw [i3, ← c7] at this
    simp only [execOp, p1, Act.eval_put (neTmp_ne n1), Act.eval_put (neTmp_ne n2), eb, ei]
    simp [this]
  unfold Oper.wp
  rw [run1, Oper.upon_value, d1]
  rw [wpOps_cons]
  refine wpOp_wop h2 g2 ?_
  have hsz1 := hsz.put (some dA) v'
  have eI : ((a.put (some dA) v').put (some dI) (.pointer (some ⟨B, O + n * ks.length, none⟩))).eval (.tmp dI) = .pointer (some ⟨B, O + n * ks.length, none⟩) := by
    exact eval_put_self (hsz1.dst b1).1
  have run2 : (execOp ((a.put (some dA) v').put (some dI) (.pointer (some ⟨B, O + n * ks.length, none⟩))).eval o2).run P w1 = .ok (.value (.pointer (some ⟨B, O + n * ks.length + q, none⟩))) w1 := by
    have g4' : P.info? fi.type = some info := by rw [f3]; exact f4
    have hsz : ∀ w, (sizeOf fi.type).run P w = .ok info.size w := fun w => by simp [sizeOf, typeInfo, g4']
    simp [execOp, p2, Instr.fieldAt, run_underlying huF, f1, eI, Instr.sureAddr, fieldPlace, hsz, f5, f2, add_mk, c6]
  unfold Oper.wp
  rw [run2, Oper.upon_value, d2]
  rw [wpOps_cons]
  refine wpOp_wop h3 g3 ?_
  have hsz2 := hsz1.put (some dI) (.pointer (some ⟨B, O + n * ks.length, none⟩))
  generalize ha2 : (a.put (some dA) v').put (some dI) (.pointer (some ⟨B, O + n * ks.length, none⟩)) = a2 at eI run2 hsz2 ⊢
  have eF : (a2.put (some dF) (.pointer (some ⟨B, O + n * ks.length + q, none⟩))).eval (.tmp dF) = .pointer (some ⟨B, O + n * ks.length + q, none⟩) := by
    exact eval_put_self (hsz2.dst b2).1
  have eA : (a2.put (some dF) (.pointer (some ⟨B, O + n * ks.length + q, none⟩))).eval (.tmp dA) = v' := by
    have hne : ∀ d', some dF = some d' → (.tmp dA : Operand) ≠ .tmp d' := fun d' e e2 => by
      cases e; cases e2
      rw [Nat.beq_refl] at n4; simp at n4
    have hne' : ∀ d', some dI = some d' → (.tmp dA : Operand) ≠ .tmp d' := fun d' e e2 => by
      cases e; cases e2
      rw [Nat.beq_refl] at n3; simp at n3
    rw [Act.eval_put hne, ← ha2, Act.eval_put hne']
    exact eval_put_self (hsz.dst b0).1
  have hBw : B < w.heap.size := hfpl B z4
  have hBi : ¬ Fi B := fun hh => (z3 B hh).2 rfl
  have hB1 : w1.heap[B]? = some (.cells cs el fr) := by rw [r6 B hBw hBi]; exact z6
  have hv1 := Own_one r9
  have hst := run_storeAt (P := P) (hT tS ts hts') (w := w1) (b := B) (o := O + n * ks.length + q) (v := v') (vs := [v']) (by rw [hv1.1]) (by rw [c8]; rfl) (fun u hu => by simp at hu; subst hu; exact hv1.2) (fun j hj => by
    simp at hj
    subst hj
    exact ⟨cs, el, fr, hB1, by simpa using z7, z8 _ (by simpa using z7)⟩)
  have run3 : (execOp (a2.put (some dF) (.pointer (some ⟨B, O + n * ks.length + q, none⟩))).eval o3).run P w1 = .ok .skip (w1.setCells B (O + n * ks.length + q) [v']) := by
    simp only [execOp, p3, Sem.run_bind, eF, eA, hst, Result.andThen_ok]
    rfl
  unfold Oper.wp
  rw [run3, Oper.upon_skip, d3]
  obtain ⟨s1', s2', s3', s4', s5', s6'⟩ := setCells_heap B [v'] (O + n * ks.length + q) w1 cs el fr hB1
  generalize hw2 : w1.setCells B (O + n * ks.length + q) [v'] = w2 at s1' s2' s3' s4' s5' s6'
  have hlen : (List.set (els xs) n z).length = (els xs).length := List.length_set ..
  have hFnew : ∀ q, F' q → gg.fp r j q → Fi q := fun q hq hf => by
    rcases (r7 q hq).2 with hh | hh | hh
    · exact hh
    · exact absurd hf (mm2.free.fp q hh r j)
    · have := hfpl q hf; omega
  have hFB : ¬ F' B := fun hh => hBi (hFnew B hh z4)
  have hother : ∀ q, q < w.heap.size → q ≠ B → ¬ Fi q → w2.heap[q]? = w.heap[q]? := fun q hq hne hF => (s2' q hne).trans (r6 q hq hF)
  have hch := mm1.change hcell (c' := ⟨s1, m1 + 1, .own (.sl e ks) (List.set (els xs) n z)⟩) (w' := w2) (v' := gg.cv r j) (F' := fun q => (gg.fp r j q ∧ ¬ Fi q) ∨ F' q) (s4'.trans r2) (s5'.trans r3) (s6'.trans r4) (by rw [s3']; exact r5) (Nat.le_refl _) (Nat.lt_succ_self _)
    (fun _ => rfl) (fun _ e' ks' xs' hx => by
      simp only [RV.own.injEq, K.sl.injEq] at hx
      obtain ⟨⟨rfl, rfl⟩, hx⟩ := hx
      have hx := eq_of_heq hx
      subst hx
      exact ⟨_, rfl, hlen⟩)
    (fun q hq hf _ => hother q hq (fun e => hf (by rw [e]; exact z4)) fun hF => hf (z3 q hF).1)
    (fun q hq => by
      have old : gg.fp r j q → q < w2.heap.size ∧ (cx.F0 q ∨ cx.w0.heap.size ≤ q) ∧ ¬ Z q ∧ (∀ r' j', gg.fp r' j' q → r' = r ∧ j' = j) ∧ (∀ r' R, look st2.rt r' = some R → R.box = true → gg.be r' ≠ q) ∧ ∃ (k : K) (x : T k), RV.own (.sl e ks) (List.set (els xs) n z) = .own k x := fun hq => by
        obtain ⟨k1, k2, k3, _⟩ := mm1.fp r j q hq
        exact ⟨by rw [s3']; exact Nat.lt_of_lt_of_le k1 r5, k2, k3, fun r' j' hh => mm1.disj _ _ _ _ _ hh hq, fun r' R' hR' hx he => (mm1.box r' R' hR' hx).2.2.1 r j (by rw [he]; exact hq), _, _, rfl⟩
      rcases hq with ⟨hq, _⟩ | hq
      · exact old hq
      · obtain ⟨l1, l2⟩ := r7 q hq
        rcases l2 with l2 | l2 | l2
        · exact old (z3 q l2).1
        · exact ⟨by rw [s3']; exact l1, mm2.free.own q l2, mm2.free.z q l2, fun r' j' hh => absurd hh (mm2.free.fp q l2 r' j'), mm2.free.box q l2, _, _, rfl⟩
        · refine ⟨by rw [s3']; exact l1, .inr (Nat.le_trans mm1.size l2), fun hz => by have := (mm1.zone _ hz).1; omega, fun r' j' hh => by have := (mm1.fp r' j' _ hh).1; omega, fun r' R' hR' hb' he => ?_, _, _, rfl⟩
          obtain ⟨_, _, _, _, cs1, el1, fr1, b5, _⟩ := mm1.box r' R' hR' hb'
          rw [he, Array.getElem?_eq_none l2] at b5
          simp at b5)
    (fun R' hR' hx => by
      obtain ⟨_, _, b3, _, cs1, el1, fr1, b5, _, _, b8⟩ := mm1.box r R' hR' hx
      have hlt : gg.be r < w.heap.size := by
        rcases Nat.lt_or_ge (gg.be r) w.heap.size with hh | hh
        · exact hh
        · simp [Array.getElem?_eq_none hh] at b5
      refine ⟨cs1, el1, fr1, cs1, b5, ?_, rfl, fun q hq => ?_⟩
      · rw [hother _ hlt (fun e => b3 r j (by rw [e]; exact z4)) fun hF => b3 r j (z3 _ hF).1]; exact b5
      · rw [b8 q hq]
        by_cases e : q = j
        · subst e; rw [if_pos rfl]
        · rw [if_neg e])
    (fun kp => by
      show Own _ (.sl e ks) (List.set (els xs) n z) (gg.cv r j) _
      rw [x8]
      refine z9 w2 v' _ z F' _ hz (Own.frame _ _ _ _ _ (fun _ hb => hb) (fun q hq _ => s2' q fun e => hFB (by rw [← e]; exact hq)) r9) hFnew s1' (setFrom_size _ _ _) ?_ (fun q hq => ?_) (fun q hq hne hf hF => hother q hq hne hF) hfpl
      · rw [setFrom_get _ _ _ _ (by simpa using Nat.succ_le_of_lt z7), if_pos (by simp)]
        simp
      · rw [setFrom_get _ _ _ _ (by simpa using Nat.succ_le_of_lt z7), if_neg (by simp; omega)])
  obtain ⟨hR, _⟩ := hch
  have hA := hR.bindV (d := dA) (tv := .v .dead) (v := v') (hsz.dst b0) trivial
  have hB := hA.bindV (d := dI) (tv := .v .dead) (v := .pointer (some ⟨B, O + n * ks.length, none⟩)) (hsz1.dst b1) trivial
  rw [ha2] at hB
  have hC := hB.bindV (d := dF) (tv := .v .dead) (v := .pointer (some ⟨B, O + n * ks.length + q, none⟩)) (hsz2.dst b2) trivial
  refine ⟨fun t tv ht => ?_, (hsz2.put _ _).put _ _, Z, _, hC⟩
  have ht : look (appEnd dA dI dF (st2.setCell r j ⟨s1, m1 + 1, .own (.sl e ks) (List.set (els xs) n z)⟩)).tm t = some tv := ht
  unfold appEnd at ht
  rw [bindT_tm] at ht
  split at ht
  · simp only [Option.some.injEq] at ht; subst ht; exact fun h => h
  rw [bindT_tm] at ht
  split at ht
  · simp only [Option.some.injEq] at ht; subst ht; exact fun h => h
  rw [bindT_tm] at ht
  split at ht
  · simp only [Option.some.injEq] at ht; subst ht; exact fun h => h
  rw [setCell_tm] at ht
  exact hn2 t tv ht
end
end Go.Av
namespace Go.Av
open Go.RowKit (Below)
def chained (l : List Oper) (n : Nat) : Bool := (List.range (l.length - n - 1)).all fun k => match l[n + 1 + k]? with | some o => o.after.toList.any fun e => bindsAny e && Nat.beq e.on (n + k) | none => false
def appTail (E : En) (v : St) : List Oper → Tr St
  | [o0, o1, o2, o3] => (match o0.op, o1.op, o2.op, o3.op, o0.dst, o1.dst, o2.dst, o3.dst with
    | .call c, .indexAddr tI (.tmp b) i, .fieldAddr tF (.tmp d1) f, .store tS (.tmp d2) (.tmp d0), some dA, some dI, some dF, none => (match c.callee, c.args.toList, c.argTypes.toList with
      | .builtin .append, [x, y], t :: t2 :: _ =>
        bif (Nat.beq d1 dI && (Nat.beq d2 dF && Nat.beq d0 dA)) && ((E.dB dA && (E.dB dI && E.dB dF)) && ((neTmp dA (.tmp b) && neTmp dA i) && (!Nat.beq dA dI && !Nat.beq dA dF))) then appElT E v t t2 x y tI b i tF f tS dA dI dF else .fail
      | _, _, _ => .fail)
    | _, _, _, _, _, _, _, _ => .fail)
  | _ => .fail
def appPre (ops : List Oper) (n : Nat) : Bool := edgesOk ops 0 && (Nat.beq ops.length (n + 4) && (!hasGuard ops && (!hasGuard (ops.take n) && ((List.range n).all (fun j => ((needs ops []).getD n 0).testBit j) && chained ops n))))
def appT (E : En) (ops : Array Oper) (ex : List (Nat × Nat)) (n : Nat) (st : St) : Tr St :=
  bif hoistOk ops ex && appPre (addE ex ops.toList 0) n then
    (regT E true ((addE ex ops.toList 0).take n) (needs (addE ex ops.toList 0) [] ++ [0]) ((addE ex ops.toList 0).take n) 0 st []).bind fun v => appTail E v ((addE ex ops.toList 0).drop n)
  else .fail
section
variable {P : Program} {E : En}
theorem appTail_step (hT : TTok P E) {cx : Cx} {Z : Nat → Prop} {g : Gh} {v : St} {a : Act} {w : World} (h : Rel cx Z g v a w) (hn : NoMay v) (hsz : Fit cx E a) {ops : Array Oper} {n : Nat} (hng : hasGuard ops.toList = false) (hl : ops.size = n + 4)
    {st' : St} (hrun : (appTail E v (ops.toList.drop n)).run = some st') : wpOps P ops (QO cx E (.nrm st')) [n, n + 1, n + 2, n + 3] a w := by
  have hget : ∀ k, (ops.toList.drop n)[k]? = ops[n + k]? := fun k => by rw [List.getElem?_drop, Array.getElem?_toList]
  generalize hL : ops.toList.drop n = L at hrun hget
  unfold appTail at hrun
  split at hrun
  rotate_left
  · simp [Tr.run] at hrun
  rename_i o0 o1 o2 o3
  have e0 : ops[n]? = some o0 := (hget 0).symm
  have e1 : ops[n + 1]? = some o1 := (hget 1).symm
  have e2 : ops[n + 2]? = some o2 := (hget 2).symm
  have e3 : ops[n + 3]? = some o3 := (hget 3).symm
  have gd : ∀ {k : Nat} {o : Oper}, ops[k]? = some o → o.guard = none := fun {k o} ho => noGuard hng (by rw [Array.getElem?_toList]; exact ho)
  split at hrun
  rotate_left
  · simp [Tr.run] at hrun
  rename_i c tI b i tF d1 f tS d2 d0 dA dI dF p0 p1 p2 p3 q0 q1 q2 q3
  split at hrun
  rotate_left
  · simp [Tr.run] at hrun
  rename_i x y t t2 tys hcal hargs hts
  generalize hc : ((Nat.beq d1 dI && (Nat.beq d2 dF && Nat.beq d0 dA)) && ((E.dB dA && (E.dB dI && E.dB dF)) && ((neTmp dA (.tmp b) && neTmp dA i) && (!Nat.beq dA dI && !Nat.beq dA dF)))) = cond at hrun
  cases cond with
  | false => simp [Tr.run] at hrun
  | true =>
  simp only [cond_true] at hrun
  simp only [Bool.and_eq_true, Bool.not_eq_true'] at hc
  obtain ⟨⟨c1, c2, c3⟩, ⟨b0, b1, b2⟩, ⟨n1, n2⟩, n3, n4⟩ := hc
  have c1 := beq_eq c1; have c2 := beq_eq c2; have c3 := beq_eq c3
  subst c1; subst c2; subst c3
  exact appEl_step hT h hn hsz e0 e1 e2 e3 (gd e0) (gd e1) (gd e2) (gd e3) q0 q1 q2 q3 b0 b1 b2 p0 hcal hargs hts p1 p2 p3 n1 n2 n3 n4 hrun
theorem app_sem (hT : TTok P E) (hga : GAok P E) (hm : P.follows .mixedOrders = true) {id : Nat} {ops : Array Oper} {ex : List (Nat × Nat)} {n : Nat} : RegSem P E (.region id ops true) (appT E ops ex n) := by
  intro cx a w st st' h hrun
  unfold appT at hrun
  cases hc : hoistOk ops ex && appPre (addE ex ops.toList 0) n with
  | false => rw [hc] at hrun; simp [Tr.run] at hrun
  | true =>
  rw [hc] at hrun
  simp only [cond_true] at hrun
  simp only [Bool.and_eq_true] at hc
  obtain ⟨hok, hpre⟩ := hc
  obtain ⟨hn, hsz, Z, g, hr⟩ := h
  refine wp_region_any hm ?_
  refine hoist hok (fun ⟨a, w, hq⟩ => hq) (fun c a w hq => hq) ops.size _ a _ (by simp) ?_
  have e1 : (addA ex ops).toList = addE ex ops.toList 0 := by simp [addA]
  have hs := addA_size ex ops
  rw [← e1] at hrun hpre
  rw [← hs]
  generalize hops : addA ex ops = ops' at hrun hpre ⊢
  rw [hops] at hs
  simp only [appPre, Bool.and_eq_true, Bool.not_eq_true', List.all_eq_true, List.mem_range] at hpre
  obtain ⟨hed, hlen4, hng, hng', hneed, hchain⟩ := hpre
  have hl4 : ops'.size = n + 4 := by have := beq_eq hlen4; simpa using this
  have hi : n < ops'.size := by omega
  have hlen : (needs ops'.toList []).length = ops'.size := by rw [needs_len]; simp
  rw [Tr.run_bind] at hrun
  cases hv : (regT E true (ops'.toList.take n) (needs ops'.toList [] ++ [0]) (ops'.toList.take n) 0 st []).run with
  | none => rw [hv] at hrun; simp at hrun
  | some v =>
  rw [hv] at hrun
  simp only [Option.bind_some] at hrun
  have hopst : (ops'.toList.take n).toArray.toList = ops'.toList.take n := by simp
  have hsize' : (ops'.toList.take n).toArray.size = n := by simp; omega
  have hops' : ∀ j, j < n → (ops'.toList.take n).toArray[j]? = ops'[j]? := fun j hj => by
    rw [← Array.getElem?_toList, hopst, List.getElem?_take, if_pos hj, Array.getElem?_toList]
  have hseg := regT_seg (P := P) (E := E) (ops := (ops'.toList.take n).toArray) (ns := needs ops'.toList [] ++ [0]) (i0 := 0) hT hga (dr := true) hn (ops'.toList.take n) 0 (by simp) (Nat.zero_le _) (Nat.le_refl _) [] v ⟨trivial, hn.MB, fun e he => by simp at he, fun _ _ _ _ he => by simp at he⟩ (by rw [hopst]; exact hv)
  obtain ⟨i1, bsF, k1, k2, k3, k4, k5, k6, k7, k8⟩ := hseg
  replace k5 := k5 (by rw [hopst]; exact hng')
  have hk8 : i1 = n ∧ v = viewAll st bsF := by
    rcases k8 with ⟨e1, e2⟩ | ⟨o', st'', e1, _, e3, _⟩
    · rw [hopst, hng'] at e2
      exact ⟨e1.trans hsize', e2⟩
    · exfalso
      have hi1 : i1 < n := by
        have := (Array.getElem?_eq_some_iff.1 e1).1
        rw [hsize'] at this
        exact this
      have hf := e3 rfl
      unfold fence at hf
      simp only [Bool.and_eq_true, List.all_eq_true, List.mem_range] at hf
      have := hf.2 (ops'.size - i1 - 1) (by rw [List.length_append, hlen]; simp; omega)
      rw [show i1 + 1 + (ops'.size - i1 - 1) = (needs ops'.toList []).length by rw [hlen]; omega] at this
      simp [List.getD] at this
  obtain ⟨rfl, rfl⟩ := hk8
  have hidx : ∀ e ∈ bsF, e.1 < i1 := fun e he => (k4 e he).2.1
  have hNA : NoMay (viewAll st bsF) := fun t tv ht => by
    rw [viewAll_tm k2] at ht
    rcases ht with ⟨i', p, h1, rfl⟩ | h1
    · exact k5 i' t p h1
    · exact hn t tv h1
  refine reg_pre (P := P) (E := E) (cx := cx) (Q := QO cx E (.nrm st')) hed hi (base := st) (bsF := bsF) ?_ hneed ?_ ?_ ops'.size (Array.replicate ops'.size false) 0 a _ Z g (by simp) (fun k hk => ?_) (fun k _ => Nat.zero_testBit k) (by rw [cnt_zero]; exact Nat.le_refl _) (fun k hk => by rw [Nat.zero_testBit] at hk; simp at hk) ?_ hsz
  · intro j hj cx S a w Z g next Q hS hSj hr hsz hnext
    have ho' : ∃ o', ops'[j]? = some o' := ⟨ops'[j]'(by omega), by simp⟩
    obtain ⟨o', ho'⟩ := ho'
    refine wpOp_same ho' (by rw [hops' j hj]; exact ho') (noGuard hng (by rw [Array.getElem?_toList]; exact ho')) ?_
    refine k7 j (Nat.zero_le _) hj cx S a w Z g next Q (fun k h1 h2 h3 => hS k h1 h2 ?_) hSj hr hsz hnext
    have hjl : j < (needs ops'.toList []).length := by rw [hlen]; omega
    rw [List.getD, List.getElem?_append_left hjl] at h3
    exact h3
  · intro k hk1 hk2
    unfold chained at hchain
    have := List.all_eq_true.1 hchain (k - i1 - 1) (List.mem_range.2 (by simp; omega))
    rw [show i1 + 1 + (k - i1 - 1) = k by omega, Array.getElem?_toList] at this
    split at this
    · rename_i o ho
      obtain ⟨e, he, h'⟩ := List.any_eq_true.1 this
      simp only [Bool.and_eq_true] at h'
      exact ⟨o, e, ho, by simpa using he, h'.1, by rw [beq_eq h'.2]; omega⟩
    · simp at this
  · intro a w Z g hr hsz
    have hv' : view st (2 ^ i1 - 1) bsF = viewAll st bsF := (viewAll_of fun e he => by rw [low_bits]; simpa using hidx e he).symm
    rw [hv'] at hr
    have : List.range' i1 (ops'.size - i1) = [i1, i1 + 1, i1 + 2, i1 + 3] := by
      rw [show ops'.size - i1 = 4 by omega]
      rfl
    rw [this]
    exact appTail_step hT hr hNA hsz hng hl4 hrun
  · rw [Nat.zero_testBit]
    simp [Array.getD_eq_getD_getElem?, hk]
  · rw [view_none fun e _ => Nat.zero_testBit _]
    exact hr.world rfl rfl rfl rfl
theorem app_of (hT : TTok P E) (hga : GAok P E) (hm : P.follows .mixedOrders = true) {c : Code} {id : Nat} {ex : List (Nat × Nat)} {n : Nat} (h : c = .region id (opsOf c) true) : RegSem P E c (appT E (opsOf c) ex n) := by
  rw [h]
  exact app_sem hT hga hm
end
end Go.Av
namespace Go.Av
open Go.RowKit (Below)
def isIntV (v : Value) : Prop := ∃ k n, v = .int k n
def intMove (ints : List Nat) (o : Oper) (d : Nat) : Bool := match o.op, o.guard, o.dst with | .move (.tmp b), none, some d' => memN ints b && Nat.beq d' d | _, _, _ => false
def intArg (ops : Array Oper) (ints : List Nat) (o : Oper) : Operand → Bool
  | .const (.int _ _) => true
  | .tmp x => o.after.toList.any fun e => bindsAny e && (match ops[e.on]? with | some o' => intMove ints o' x | none => false)
  | _ => false
def sumOp : BinOp → Bool | .add => true | .sub => true | _ => false
def pureI (ops : Array Oper) (ints : List Nat) (o : Oper) : Bool := pureOp o || (match o.op, o.guard, o.dst with | .binOp op _ x y _, none, some _ => sumOp op && (intArg ops ints o x && intArg ops ints o y) | _, _, _ => false)
def dstsNew (l : List Oper) (ints : List Nat) : Bool := (List.range l.length).all fun i => match dstOf l i with | some d => !memN ints d && (List.range l.length).all fun k => Nat.beq k i || (match dstOf l k with | some d' => !Nat.beq d' d | none => true) | none => true
def hoistOk2 (ops : Array Oper) (ints : List Nat) (ex : List (Nat × Nat)) : Bool :=
  Region.noSelect ops && (edgesOk ops.toList 0 && (dstsNew ops.toList ints && ex.all fun p => (match ops[p.2]?, ops[p.1]? with
    | some oj, some oi => pureI ops ints oj && (exOf ex p.2).isEmpty && (oj.after.toList.all fun e => !bindsAny e || ((oi.after.toList.any fun e' => bindsAny e' && Nat.beq e'.on e.on) || ex.any fun p' => Nat.beq p'.1 p.1 && Nat.beq p'.2 e.on)) &&
        (List.range ops.size).all fun k => Nat.beq k p.2 || (match ops[k]? with | some ok => (ok.after.toList.any fun e => bindsAny e && Nat.beq e.on p.2) || ((oj.after.toList.any fun e => bindsAny e && Nat.beq e.on k) || oj.apart ops ok) | none => true)
    | _, _ => false)))
def IntsOf (ops : Array Oper) (ints : List Nat) (listed : Array Bool) (a : Act) : Prop :=
  (∀ (k : Nat) (o : Oper) (d : Nat), ops[k]? = some o → o.dst = some d → d < a.tmps.size) ∧ (∀ b ∈ ints, isIntV (a.eval (.tmp b))) ∧ ∀ (k : Nat) (o : Oper) (d : Nat), ops[k]? = some o → intMove ints o d = true → listed.getD k false = true → isIntV (a.eval (.tmp d))
theorem memN_of : ∀ {l : List Nat} {n : Nat}, n ∈ l → memN l n = true
  | x :: r, n, h => by
    simp only [memN, Bool.or_eq_true]
    rcases List.mem_cons.1 h with h | h
    · subst h; exact .inl (Nat.beq_refl _)
    · exact .inr (memN_of h)
section
variable {P : Program} {ops : Array Oper} {Q : Exit → Act → World → Prop} {ints : List Nat}
theorem dstsNew_spec (h : dstsNew ops.toList ints = true) {k : Nat} {o : Oper} {d : Nat} (ho : ops[k]? = some o) (hd : o.dst = some d) : (∀ b ∈ ints, b ≠ d) ∧ ∀ (k' : Nat) (o' : Oper), ops[k']? = some o' → o'.dst = some d → k' = k := by
  have hk : k < ops.toList.length := by rw [Array.length_toList]; exact (Array.getElem?_eq_some_iff.1 ho).1
  have h1 := List.all_eq_true.1 h k (List.mem_range.2 hk)
  have e : dstOf ops.toList k = some d := by unfold dstOf; rw [Array.getElem?_toList, ho]; exact hd
  rw [e] at h1
  simp only [Bool.and_eq_true, Bool.not_eq_true'] at h1
  refine ⟨fun b hb hbd => ?_, fun k' o' ho' hd' => ?_⟩
  · subst hbd
    have : memN ints b = true := memN_of hb
    rw [h1.1] at this
    simp at this
  · have hk' : k' < ops.toList.length := by rw [Array.length_toList]; exact (Array.getElem?_eq_some_iff.1 ho').1
    have h2 := List.all_eq_true.1 h1.2 k' (List.mem_range.2 hk')
    have e' : dstOf ops.toList k' = some d := by unfold dstOf; rw [Array.getElem?_toList, ho']; exact hd'
    rw [e'] at h2
    simp only [Bool.or_eq_true, Bool.not_eq_true'] at h2
    rcases h2 with h2 | h2
    · exact beq_eq h2
    · exact absurd rfl (Nat.ne_of_beq_eq_false h2)
theorem intMove_spec {o : Oper} {d : Nat} (h : intMove ints o d = true) : ∃ b, o.op = .move (.tmp b) ∧ o.guard = none ∧ o.dst = some d ∧ b ∈ ints := by
  unfold intMove at h
  split at h
  · rename_i b d' h1 h2 h3
    simp only [Bool.and_eq_true] at h
    have := beq_eq h.2
    subst this
    exact ⟨b, h1, h2, h3, memN_mem h.1⟩
  · simp at h
theorem eval_defers (a : Act) (l : List Deferred) (x : Operand) : ({ a with defers := l } : Act).eval x = a.eval x := by cases x <;> rfl
theorem IntsOf.put (hnew : dstsNew ops.toList ints = true) {k : Nat} {o : Oper} (ho : ops[k]? = some o) {listed : Array Bool} {a : Act} (hI : IntsOf ops ints listed a) {v : Value} (hv : ∀ d, intMove ints o d = true → isIntV v) : IntsOf ops ints (listed.setIfInBounds k true) (a.put o.dst v) := by
  cases hd : o.dst with
  | none =>
    refine ⟨hI.1, fun b hb => hI.2.1 b hb, fun k' o' d' ho' hm hl => ?_⟩
    have hne : k ≠ k' := fun e => by
      subst e
      rw [ho] at ho'; cases ho'
      obtain ⟨_, _, _, h3, _⟩ := intMove_spec hm
      rw [hd] at h3; simp at h3
    rw [getD_set_ne false hne] at hl
    exact hI.2.2 k' o' d' ho' hm hl
  | some d =>
    obtain ⟨n1, n2⟩ := dstsNew_spec hnew ho hd
    have hev : ∀ t, t ≠ d → (a.put (some d) v).eval (.tmp t) = a.eval (.tmp t) := fun t ht => Act.eval_put fun d' e e2 => by cases e; cases e2; exact ht rfl
    refine ⟨fun k' o' d' ho' hd' => by rw [put_size]; exact hI.1 k' o' d' ho' hd', fun b hb => by rw [hev b (n1 b hb)]; exact hI.2.1 b hb, fun k' o' d' ho' hm hl => ?_⟩
    obtain ⟨b', _, _, h3, _⟩ := intMove_spec hm
    by_cases e : d' = d
    · subst e
      have := n2 k' o' ho' h3
      subst this
      rw [ho] at ho'; cases ho'
      rw [eval_put_self (hI.1 _ _ _ ho hd)]
      exact hv _ hm
    · rw [hev d' e]
      have hne : k ≠ k' := fun e2 => by
        subst e2
        rw [ho] at ho'; cases ho'
        rw [hd] at h3; cases h3; exact e rfl
      rw [getD_set_ne false hne] at hl
      exact hI.2.2 k' o' d' ho' hm hl
theorem IntsOf.defers {listed : Array Bool} {a : Act} {l : List Deferred} (hI : IntsOf ops ints listed a) : IntsOf ops ints listed { a with defers := l } :=
  ⟨hI.1, fun b hb => by rw [eval_defers]; exact hI.2.1 b hb, fun k o d ho hm hl => by rw [eval_defers]; exact hI.2.2 k o d ho hm hl⟩
theorem wpOp_ints (hnew : dstsNew ops.toList ints = true) {k : Nat} {K : Act → World → Prop} {listed : Array Bool} {a : Act} {w : World} (hk : k < ops.size) (hI : IntsOf ops ints listed a) (h : wpOp P ops Q k K a w) :
    wpOp P ops Q k (fun a' w' => K a' w' ∧ IntsOf ops ints (listed.setIfInBounds k true) a') a w := by
  obtain ⟨o, ho⟩ : ∃ o, ops[k]? = some o := ⟨ops[k], by simp [hk]⟩
  unfold wpOp at h ⊢
  simp only [ho] at h ⊢
  by_cases hw : Region.wanted o (yielded ops a.tmps) = true
  rotate_left
  · rw [if_neg hw] at h ⊢
    refine ⟨h, hI.put hnew ho fun d hm => ?_⟩
    obtain ⟨_, _, h2, _, _⟩ := intMove_spec hm
    exfalso; apply hw; simp [Region.wanted, h2]
  · rw [if_pos hw] at h ⊢
    refine h.imp (fun h => ?_) id
    unfold Oper.wp at h ⊢
    by_cases hmv : ∃ d, intMove ints o d = true
    · obtain ⟨d, hm⟩ := hmv
      obtain ⟨b, h1, h2, h3, h4⟩ := intMove_spec hm
      have he : (execOp a.eval o).run P w = .ok (.value (a.eval (.tmp b))) w := by simp [execOp, h1]
      rw [he, Oper.upon_value] at h ⊢
      exact ⟨h, hI.put hnew ho fun _ _ => hI.2.1 b h4⟩
    · have hp : ∀ (a : Act) (v : Value), IntsOf ops ints listed a → IntsOf ops ints (listed.setIfInBounds k true) (a.put o.dst v) := fun a v hI => hI.put hnew ho fun d hm => absurd ⟨d, hm⟩ hmv
      generalize (execOp a.eval o).run P w = r at h ⊢
      cases r with
      | halt e w' => cases e <;> exact h
      | ok n w' =>
        cases n with
        | value v => exact ⟨h, hp _ _ hI⟩
        | skip => exact ⟨h, hp _ _ hI⟩
        | defer d => exact ⟨h, hp _ _ hI.defers⟩
        | enter f args =>
          refine Calls.mono h fun e w'' he => ?_
          cases e with
          | returned v => exact ⟨he, hp _ _ hI⟩
          | panicked c => exact he
          | outgrown => exact he
        | row row args => exact Rows.mono h fun v w'' he => ⟨he, hp _ _ hI⟩
        | _ => exact h
theorem pureI_yields {o : Oper} {listed : Array Bool} {a : Act} (hI : IntsOf ops ints listed a) (hready : ∀ e ∈ o.after, Region.binds .any e = true → listed.getD e.on false = true) (hp : pureI ops ints o = true) (hL : ¬ LetsOut Q) (hQ : ∀ c a w, ¬ Q (.panic c) a w) {k : Nat} (ho : ops[k]? = some o) {K : Act → World → Prop} {w : World} (h : wpOp P ops Q k K a w) :
    ∃ v, Yields P ops o v a ∧ K (a.put o.dst v) w := by
  unfold pureI at hp
  rw [Bool.or_eq_true] at hp
  rcases hp with hp | hp
  · exact pure_yields hp hL hQ ho h
  · split at hp
    · rename_i op t x y t' d h1 h2 h3
      simp only [Bool.and_eq_true] at hp
      obtain ⟨hop, hx, hy⟩ := hp
      have arg : ∀ x, intArg ops ints o x = true → isIntV (a.eval x) := fun x hx => by
        unfold intArg at hx
        split at hx
        · exact ⟨_, _, rfl⟩
        · rename_i t
          obtain ⟨e, he, h'⟩ := List.any_eq_true.1 hx
          simp only [Bool.and_eq_true] at h'
          obtain ⟨hb, h'⟩ := h'
          split at h'
          · rename_i o' ho'
            exact hI.2.2 _ _ _ ho' h' (hready e (by simpa using he) hb)
          · simp at h'
        · simp at hx
      obtain ⟨k1, n1, ex⟩ := arg x hx
      obtain ⟨k2, n2, ey⟩ := arg y hy
      have hw : Region.wanted o (yielded ops a.tmps) = true := by simp [Region.wanted, h2]
      unfold wpOp at h
      rw [ho] at h
      simp only [hw, if_true] at h
      have h := h.resolve_right fun h => hL h.2
      unfold Oper.wp at h
      by_cases hk : k1 = k2
      · subst hk
        obtain ⟨v, hv⟩ : ∃ v, ∀ w, (execOp a.eval o).run P w = .ok (.value v) w := by
          cases op with
          | add => exact ⟨_, fun w => by simp [execOp, h1, ex, ey, eqGuard, binOp, Op.intArith]; rfl⟩
          | sub => exact ⟨_, fun w => by simp [execOp, h1, ex, ey, eqGuard, binOp, Op.intArith]; rfl⟩
          | _ => simp [sumOp] at hop
        refine ⟨v, .inl ⟨hw, hv⟩, ?_⟩
        rw [hv w, Oper.upon_value] at h
        exact h
      · exfalso
        cases op with
        | add => simp [execOp, h1, ex, ey, eqGuard, binOp, hk, Oper.upon, stuck] at h
        | sub => simp [execOp, h1, ex, ey, eqGuard, binOp, hk, Oper.upon, stuck] at h
        | _ => simp [sumOp] at hop
    · simp at hp
theorem hoist2 {ex : List (Nat × Nat)} (hok : hoistOk2 ops ints ex = true) (hL : ¬ LetsOut Q) (hQ : ∀ c a w, ¬ Q (.panic c) a w) :
    ∀ (fuel : Nat) (listed : Array Bool) (a : Act) (w : World), listed.size = ops.size → IntsOf ops ints listed a → wpAny P .any (addA ex ops) Q fuel listed a w → wpAny P .any ops Q fuel listed a w := by
  unfold hoistOk2 at hok
  simp only [Bool.and_eq_true] at hok
  obtain ⟨hns, hed, hnew, hok⟩ := hok
  have hsel := Region.noSelect_spec hns
  have facts : ∀ p ∈ ex, ∃ oj oi, ops[p.2]? = some oj ∧ ops[p.1]? = some oi ∧ pureI ops ints oj = true ∧ exOf ex p.2 = [] ∧ (∀ e ∈ oj.after, bindsAny e = true → (∃ e' ∈ oi.after, bindsAny e' = true ∧ e'.on = e.on) ∨ ∃ p' ∈ ex, p'.1 = p.1 ∧ p'.2 = e.on) ∧
      ∀ k ok, ops[k]? = some ok → k ≠ p.2 → (∀ e ∈ ok.after, Region.binds .any e = true → e.on ≠ p.2) → (∃ e ∈ oj.after, bindsAny e = true ∧ e.on = k) ∨ oj.apart ops ok = true := by
    intro p hp
    have h := List.all_eq_true.1 hok p hp
    cases h2 : ops[p.2]? with
    | none => rw [h2] at h; simp at h
    | some oj =>
      cases h1 : ops[p.1]? with
      | none => rw [h2, h1] at h; simp at h
      | some oi =>
        rw [h2, h1] at h
        simp only [Bool.and_eq_true] at h
        obtain ⟨⟨⟨g1, g2⟩, g3⟩, g4⟩ := h
        refine ⟨oj, oi, rfl, rfl, g1, List.isEmpty_iff.1 g2, fun e he hb => ?_, fun k ok hk hne hno => ?_⟩
        · have := List.all_eq_true.1 g3 e (by simpa using he)
          rw [hb] at this
          simp only [Bool.not_true, Bool.false_or, Bool.or_eq_true] at this
          rcases this with this | this
          · obtain ⟨e', he', h'⟩ := List.any_eq_true.1 this
            simp only [Bool.and_eq_true] at h'
            exact .inl ⟨e', by simpa using he', h'.1, beq_eq h'.2⟩
          · obtain ⟨p', hp', h'⟩ := List.any_eq_true.1 this
            simp only [Bool.and_eq_true] at h'
            exact .inr ⟨p', hp', beq_eq h'.1, beq_eq h'.2⟩
        · have hlt : k < ops.size := (Array.getElem?_eq_some_iff.1 hk).1
          have := List.all_eq_true.1 g4 k (List.mem_range.2 hlt)
          rw [hk] at this
          simp only [Bool.or_eq_true] at this
          rcases this with h | h | h | h
          · exact absurd (beq_eq h) hne
          · obtain ⟨e', he', h'⟩ := List.any_eq_true.1 h
            simp only [Bool.and_eq_true] at h'
            exact absurd (beq_eq h'.2) (hno e' (by simpa using he') h'.1)
          · obtain ⟨e', he', h'⟩ := List.any_eq_true.1 h
            simp only [Bool.and_eq_true] at h'
            exact .inl ⟨e', by simpa using he', h'.1, beq_eq h'.2⟩
          · exact .inr h
  have hR : ∀ (listed : Array Bool), listed.size = ops.size → ∀ k, k ∈ Region.ready .any ops listed → ∀ (n : Nat), ∀ p ∈ ex, p.2 = n → p.1 = k → listed.getD p.2 false ≠ true → ∃ q ∈ ex, q.2 ∈ Region.ready .any ops listed := by
    intro listed hls k hk n
    induction n using Nat.strongRecOn with
    | _ n ih =>
      intro p hp hpn hpk hun
      obtain ⟨oj, oi, h2, h1, g1, g2, g3, g4⟩ := facts p hp
      obtain ⟨_, o, ho, hall⟩ := mem_ready.1 hk
      rw [← hpk, h1] at ho
      cases ho
      have hlt : p.2 < listed.size := by rw [hls]; exact (Array.getElem?_eq_some_iff.1 h2).1
      by_cases hr : ∀ e ∈ oj.after, Region.binds .any e = true → listed.getD e.on false = true
      · refine ⟨p, hp, mem_ready.2 ⟨?_, oj, h2, hr⟩⟩
        simp only [Array.getD_eq_getD_getElem?, Array.getElem?_eq_getElem hlt, Option.getD_some] at hun ⊢
        simpa using hun
      · simp only [Classical.not_forall] at hr
        obtain ⟨e, he, hb, hne⟩ := hr
        rcases g3 e he hb with ⟨e', he', hb', h'⟩ | ⟨p', hp', h1', h2'⟩
        · exfalso
          apply hne
          rw [← h']
          exact hall e' he' hb'
        · have hon := edgesOk_spec ops.toList 0 hed p.2 oj (by rw [Array.getElem?_toList]; exact h2) e (Array.mem_toList_iff.2 he) hb
          rw [Nat.zero_add] at hon
          exact ih e.on (by omega) p' hp' h2' (by rw [h1', hpk]) (by rw [h2']; exact hne)
  intro fuel
  induction fuel with
  | zero =>
    intro listed a w hls hI H
    refine ⟨List.eq_nil_iff_forall_not_mem.2 fun k hk => ?_, H.2⟩
    by_cases hall : ∀ p ∈ ex, p.1 = k → listed.getD p.2 false = true
    · have := ready_addA.2 ⟨hk, hall⟩
      rw [H.1] at this
      simp at this
    · simp only [Classical.not_forall] at hall
      obtain ⟨p, hp, hpk, hun⟩ := hall
      obtain ⟨q, hq, hr⟩ := hR listed hls k hk p.2 p hp rfl hpk hun
      obtain ⟨_, _, _, _, _, g2, _, _⟩ := facts q hq
      have hr2 : q.2 ∈ Region.ready .any (addA ex ops) listed := ready_addA.2 ⟨hr, fun q' hq' hqk => by
        have := exOf_mem hq'
        rw [hqk, g2] at this
        simp at this⟩
      rw [H.1] at hr2
      simp at hr2
  | succ fuel ih =>
    intro listed a w hls hI H
    by_cases hex : ∃ p, p ∈ ex ∧ p.2 ∈ Region.ready .any ops listed
    · obtain ⟨p, hp, hr⟩ := hex
      obtain ⟨oj, oi, h2, h1, g1, g2, g3, g4⟩ := facts p hp
      have hr2 : p.2 ∈ Region.ready .any (addA ex ops) listed := ready_addA.2 ⟨hr, fun q hq hqk => by
        have := exOf_mem hq
        rw [hqk, g2] at this
        simp at this⟩
      have hrdy : ∀ e ∈ oj.after, Region.binds .any e = true → listed.getD e.on false = true := by
        obtain ⟨_, o, ho, hall⟩ := mem_ready.1 hr
        rw [h2] at ho
        cases ho
        exact hall
      have hlt2 : p.2 < ops.size := (Array.getElem?_eq_some_iff.1 h2).1
      obtain ⟨v, hy, hK, hI'⟩ := pureI_yields hI hrdy g1 hL hQ h2 (wpOp_ints hnew hlt2 hI (wpOp_addA (H.2 p.2 hr2)))
      refine wpAny_first h2 hsel (fun c a w h => (hQ _ _ _ h).elim) fuel listed a w (fun k ok hk hne hun hno => (g4 k ok hk hne hno).resolve_left fun ⟨e, he, hb, hek⟩ => ?_) hr hy (ih _ _ _ (by simpa using hls) hI' hK)
      obtain ⟨_, o, ho, hall⟩ := mem_ready.1 hr
      rw [h2] at ho
      cases ho
      have h5 := hall e he hb
      rw [hek] at h5
      have hlt : k < listed.size := by rw [hls]; exact (Array.getElem?_eq_some_iff.1 hk).1
      simp only [Array.getD_eq_getD_getElem?, Array.getElem?_eq_getElem hlt, Option.getD_some] at hun h5
      rw [h5] at hun
      simp at hun
    · have hsub : ∀ k, k ∈ Region.ready .any ops listed → k ∈ Region.ready .any (addA ex ops) listed := fun k hk => by
        refine ready_addA.2 ⟨hk, fun p hp hpk => ?_⟩
        by_cases hun : listed.getD p.2 false = true
        · exact hun
        · exact absurd (hR listed hls k hk p.2 p hp rfl hpk hun) fun ⟨q, hq, hr⟩ => hex ⟨q, hq, hr⟩
      refine ⟨fun h0 => H.1 (List.eq_nil_iff_forall_not_mem.2 fun k hk => ?_), fun k hk => ?_⟩
      · have := (ready_addA.1 hk).1
        rw [h0] at this
        simp at this
      · have hlt : k < ops.size := by
          obtain ⟨_, o, ho, _⟩ := mem_ready.1 hk
          exact (Array.getElem?_eq_some_iff.1 ho).1
        exact wpOp_mono (fun a' w' h => ih _ a' w' (by simpa using hls) h.2 h.1) (wpOp_ints hnew hlt hI (wpOp_addA (H.2 k (hsub k hk))))
end
end Go.Av
namespace Go.Av
open Go.RowKit (Below)
def swpL {α : Type} (d : α) (xs : List α) (i j : Nat) : List α := (xs.set i (xs.getD j d)).set j (xs.getD i d)
def swI {α : Type} (d : α) (xs : List α) (i j : Int) : List α := swpL d xs i.toNat j.toNat
theorem swpL_len {α : Type} (d : α) (xs : List α) (i j : Nat) : (swpL d xs i j).length = xs.length := by simp [swpL]
def sw1 (i j k : Nat) : Nat := if k = j then i else if k = i then j else k
theorem sw1_inv (i j k : Nat) : sw1 i j (sw1 i j k) = k := by
  unfold sw1
  split
  · split
    · subst_vars; rfl
    · subst_vars; simp
  · split
    · subst_vars; simp
    · rename_i h1 h2; simp [h1, h2]
theorem sw1_lt {i j k n : Nat} (hi : i < n) (hj : j < n) : sw1 i j k < n ↔ k < n := by
  unfold sw1
  split
  · subst_vars; exact ⟨fun _ => hj, fun _ => hi⟩
  · split
    · subst_vars; exact ⟨fun _ => hi, fun _ => hj⟩
    · exact Iff.rfl
theorem swpL_get {α : Type} (d : α) {xs : List α} {i j k : Nat} (hi : i < xs.length) (hj : j < xs.length) : (swpL d xs i j)[k]? = xs[sw1 i j k]? := by
  unfold swpL sw1
  rw [List.getElem?_set]
  by_cases e : k = j
  · subst e
    simp [hi, hj, List.getD]
  · rw [if_neg (fun h => e h.symm), if_neg e, List.getElem?_set]
    by_cases e2 : k = i
    · subst e2
      simp [hi, hj, List.getD]
    · rw [if_neg (fun h => e2 h.symm), if_neg e2]
section
variable {w : World}
theorem Ownl_cells : ∀ (ks : List K) (x : Tl ks) (j : Nat) (G : Nat → Nat → Prop) (cs : Array Value) (o : Nat) (c : Nat), c < ks.length → Ownl w ks x j G cs o → ∃ (k : K) (y : T k) (u : Value), cellAt ks x c = some ⟨k, y⟩ ∧ cs[o + c]? = some u ∧ Own w k y u (G (j + c))
  | [], _, _, _, _, _, _, h, _ => by simp at h
  | k :: ks, x, j, G, cs, o, 0, _, ⟨⟨v, h1, h2⟩, _⟩ => ⟨k, x.1, v, rfl, h1, h2⟩
  | k :: ks, x, j, G, cs, o, c + 1, h, ⟨_, h3⟩ => by
    obtain ⟨k', y, u, a1, a2, a3⟩ := Ownl_cells ks x.2 (j + 1) G cs (o + 1) c (by simpa using h) h3
    exact ⟨k', y, u, a1, by rw [show o + (c + 1) = o + 1 + c by omega]; exact a2, by rw [show j + (c + 1) = j + 1 + c by omega]; exact a3⟩
theorem own_swap {e : TypeId} {ks : List K} {xs : T (.sl e ks)} {b o l cap : Nat} {F : Nat → Prop} (h : Own w (.sl e ks) xs (.slice (some ⟨b, o, none⟩) l cap) F) {i j : Nat} (hi : i < (els xs).length) (hj : j < (els xs).length) :
    ∃ cs el fr, F b ∧ l = (els xs).length ∧ w.heap[b]? = some (.cells cs el fr) ∧ (∀ q, q < cs.size → ¬ (fr.1 ≤ q ∧ q < fr.2)) ∧ o + (els xs).length * ks.length ≤ cs.size ∧
      (∀ i c, i < (els xs).length → c < ks.length → ∃ (k : K) (y : T k) (u : Value) (H : Nat → Prop), cellAt ks (elAt xs i) c = some ⟨k, y⟩ ∧ cs[o + i * ks.length + c]? = some u ∧ Own w k y u H) ∧
      ∀ (w' : World) (cs' : Array Value), w'.heap[b]? = some (.cells cs' el fr) → cs'.size = cs.size → (∀ q, q < ks.length → cs'[o + i * ks.length + q]? = cs[o + j * ks.length + q]?) → (∀ q, q < ks.length → cs'[o + j * ks.length + q]? = cs[o + i * ks.length + q]?) →
        (∀ k q, k ≠ i → k ≠ j → q < ks.length → cs'[o + k * ks.length + q]? = cs[o + k * ks.length + q]?) → (∀ q, q < w.heap.size → q ≠ b → F q → w'.heap[q]? = w.heap[q]?) → (∀ q, F q → q < w.heap.size) →
        Own w' (.sl e ks) (swpL (dfls ks) (els xs) i j) (.slice (some ⟨b, o, none⟩) l cap) F := by
  obtain ⟨a', c0, h1, h2, h3, h4, h5⟩ := h
  simp only [Value.slice.injEq] at h1
  obtain ⟨rfl, rfl, rfl⟩ := h1
  obtain ⟨b', o', cs, el, fr, g1, g2, g3, g4, g5, G, g6, g7, g8⟩ := h5 _ rfl
  simp only [Addr.mk.injEq, and_true] at g1
  obtain ⟨rfl, rfl⟩ := g1
  refine ⟨cs, el, fr, g2, rfl, g3, fun q hq => g4 q (Nat.lt_add_right _ hq), ?_, fun i c hi hc => ?_, fun w' cs' hb hs hci hcj hck hw hlt => ?_⟩
  · have := Nat.mul_le_mul_right ks.length h2
    omega
  · obtain ⟨k, y, u, a1, a2, a3⟩ := Ownl_cells ks _ 0 (G i) cs _ c hc (g8 i _ (elAt_get xs hi))
    exact ⟨k, y, u, _, a1, a2, a3⟩
  · have hlen : (swpL (dfls ks) (els xs) i j).length = (els xs).length := swpL_len _ _ _ _
    have hlen' : (els (e := e) (ks := ks) (swpL (dfls ks) (els xs) i j)).length = (els xs).length := hlen
    refine ⟨_, cap, by rw [hlen'], by rw [hlen']; exact h2, by rw [hlen']; exact h3, h4, fun a'' ha'' => ?_⟩
    simp only [Option.some.injEq] at ha''
    subst ha''
    refine ⟨b, o, cs', el, fr, rfl, g2, hb, by rw [hs]; exact g4, by rw [hs]; exact g5, fun i' => G (sw1 i j i'), fun i' j' q hq => g6 _ j' q hq, fun i1 j1 i2 j2 q hq1 hq2 => ?_, fun i' x hx => ?_⟩
    · obtain ⟨e1, e2⟩ := g7 _ _ _ _ q hq1 hq2
      have := congrArg (sw1 i j) e1
      rw [sw1_inv, sw1_inv] at this
      exact ⟨this, e2⟩
    · have hx' : (swpL (dfls ks) (els xs) i j)[i']? = some x := hx
      rw [swpL_get _ hi hj] at hx'
      refine Ownl_move ks x 0 (G (sw1 i j i')) _ cs cs' (o + sw1 i j i' * ks.length) _ (fun q hq => ?_) (fun _ _ h => h) (fun j' q hq _ => hw q (hlt q (g6 _ j' q hq).1) (g6 _ j' q hq).2 (g6 _ j' q hq).1) (g8 _ x hx')
      unfold sw1
      by_cases e1 : i' = j
      · subst e1
        rw [if_pos rfl]
        exact hcj q hq
      · rw [if_neg e1]
        by_cases e2 : i' = i
        · subst e2
          rw [if_pos rfl]
          exact hci q hq
        · rw [if_neg e2]
          exact hck i' q e2 e1 hq
theorem flat_same {Z : Nat → Prop} {k : K} {y : T k} {u v : Value} {H : Nat → Prop} (hk : isSl k = false) (h1 : Own w k y u H) (h2 : RO Z w k y v) : v = u := by
  cases k with
  | int k => exact (show v = .int k y ∧ _ from h2).1.trans (show u = .int k y ∧ _ from h1).1.symm
  | bool => exact (show v = .bool y from h2).trans (show u = .bool y from h1).symm
  | str => exact (show v = .string (mkS y) ∧ _ from h2).1.trans (show u = .string (mkS y) ∧ _ from h1).1.symm
  | sl e ks => simp [isSl] at hk
end
end Go.Av
namespace Go.Av
open Go.RowKit (Below)
theorem elCells_get {ks : List K} {x : Tl ks} {sl : Nat → (k : K) → T k → AV} : ∀ (n c : Nat) (l : List AV), elCells ks x sl c n = some l → l.length = n ∧ ∀ q, q < n → ∃ a, elCell ks x (c + q) (sl (c + q)) = some a ∧ l[q]? = some a
  | 0, c, l, h => by
    simp only [elCells, Option.some.injEq] at h
    subst h
    exact ⟨rfl, fun q hq => by omega⟩
  | n + 1, c, l, h => by
    simp only [elCells] at h
    split at h
    · rename_i a l' ha hl
      simp only [Option.some.injEq] at h
      subst h
      obtain ⟨h1, h2⟩ := elCells_get n (c + 1) l' hl
      refine ⟨by simp [h1], fun q hq => ?_⟩
      cases q with
      | zero => exact ⟨a, ha, rfl⟩
      | succ q =>
        obtain ⟨a', g1, g2⟩ := h2 q (by omega)
        exact ⟨a', by rw [show c + (q + 1) = c + 1 + q by omega]; exact g1, by simpa using g2⟩
    · simp at h
theorem idx_ne {O n i k q : Nat} (h : i ≠ k) (hq : q < n) : ¬ (O + k * n ≤ O + i * n + q ∧ O + i * n + q < O + k * n + n) := by
  rintro ⟨h1, h2⟩
  rcases Nat.lt_or_ge i k with hh | hh
  · have := Nat.mul_le_mul_right n (show i + 1 ≤ k from hh)
    rw [Nat.add_mul, Nat.one_mul] at this; omega
  · have := Nat.mul_le_mul_right n (show k + 1 ≤ i by omega)
    rw [Nat.add_mul, Nat.one_mul] at this; omega
section
variable {P : Program} {E : En} {cx : Cx} {Z : Nat → Prop} {g : Gh} {st v : St} {a : Act} {w : World}
theorem el_vals (h : Rel cx Z g v a w) {r j s m i : Nat} {e : TypeId} {ks : List K} {xs : T (.sl e ks)} (hcell : v.cell r j = some ⟨s, m, .own (.sl e ks) xs⟩) {B O L C : Nat} (hcv : g.cv r j = .slice (some ⟨B, O, none⟩) L C) {cs : Array Value} {el : TypeId} {fr : Nat × Nat} (hB : w.heap[B]? = some (.cells cs el fr))
    (hc : ∀ c, c < ks.length → ∃ (k : K) (y : T k) (u : Value) (H : Nat → Prop), cellAt ks (elAt xs i) c = some ⟨k, y⟩ ∧ cs[O + i * ks.length + c]? = some u ∧ Own w k y u H) {l : List AV} {vs : List Value} (hl : elCells ks (elAt xs i) (fun c' _ _ => .pref r j s m i c') 0 ks.length = some l) (hr : RelAVs Z g v w l vs) :
    vs.length = ks.length ∧ (∀ c, c < ks.length → vs[c]? = cs[O + i * ks.length + c]?) ∧ ∀ u ∈ vs, u.oneCell' = true := by
  obtain ⟨h1, h2⟩ := elCells_get _ _ _ hl
  have hlen : vs.length = ks.length := by rw [← RelAVs_len hr, h1]
  have key : ∀ c, c < ks.length → ∃ u, vs[c]? = some u ∧ cs[O + i * ks.length + c]? = some u ∧ u.oneCell' = true := fun c hlt => by
    obtain ⟨k, y, u, H, a1, a2, a3⟩ := hc c hlt
    obtain ⟨av, b1, b2⟩ := h2 c hlt
    rw [Nat.zero_add] at b1
    have hv : vs[c]? = some (vs[c]'(by omega)) := by simp [hlen, hlt]
    generalize (vs[c]'(by omega)) = vv at hv
    have hrv := RelAVs_get hr _ _ _ b2 hv
    refine ⟨vv, hv, ?_⟩
    have : vv = u := by
      unfold elCell at b1
      rw [a1] at b1
      cases hk : isSl k with
      | true =>
        cases k with
        | sl e' ks' =>
          simp only [Option.some.injEq] at b1
          subst b1
          obtain ⟨cc, x1, x2, x3, x4⟩ := hrv
          rw [hcell] at x1
          cases x1
          obtain ⟨e', ks', xs', x5, x6, x7, B', O', L', C', x8, x9⟩ := x4 rfl rfl
          simp only [RV.own.injEq, K.sl.injEq] at x5
          obtain ⟨⟨rfl, rfl⟩, x5⟩ := x5
          rw [hcv] at x8
          simp only [Value.slice.injEq, Option.some.injEq, Addr.mk.injEq, and_true] at x8
          obtain ⟨⟨rfl, rfl⟩, rfl, rfl⟩ := x8
          simp only [World.cell?, hB, Option.isSome_none, Bool.false_eq_true, if_false] at x9
          rw [a2] at x9
          exact (Option.some.inj x9).symm
        | _ => simp [isSl] at hk
      | false =>
        have : av = .d k y := by
          cases k with
          | sl e' ks' => simp [isSl] at hk
          | _ => simp only [Option.some.injEq] at b1; exact b1.symm
        subst this
        exact flat_same hk a3 hrv
    subst this
    exact ⟨a2, (Own_one a3).2⟩
  refine ⟨hlen, fun c hlt => ?_, fun u hu => ?_⟩
  · obtain ⟨u, k1, k2, _⟩ := key c hlt
    rw [k1, k2]
  · obtain ⟨c, hlt, hc'⟩ := List.getElem_of_mem hu
    obtain ⟨u', k1, _, k3⟩ := key c (by omega)
    rw [List.getElem?_eq_getElem hlt, hc'] at k1
    cases k1
    exact k3
theorem swap_step (hT : TTok P E) (h : Rel cx Z g v a w) (hn : NoMay v) (hsz : Fit cx E a) {ops : Array Oper} {k0 : Nat} {o0 o1 o2 o3 : Oper} (h0 : ops[k0]? = some o0) (h1 : ops[k0 + 1]? = some o1) (h2 : ops[k0 + 2]? = some o2) (h3 : ops[k0 + 3]? = some o3)
    (g0 : o0.guard = none) (g1 : o1.guard = none) (g2 : o2.guard = none) (g3 : o3.guard = none) {dA dB : Nat} (d0 : o0.dst = some dA) (d1 : o1.dst = none) (d2 : o2.dst = some dB) (d3 : o3.dst = none) (b0 : E.dB dA = true) (b2 : E.dB dB = true)
    {tA tB tS1 tS2 bA bB x1 x2 : Nat} {iA iB : Operand} (p0 : o0.op = .indexAddr tA (.tmp bA) iA) (p1 : o1.op = .store tS1 (.tmp dA) (.tmp x1)) (p2 : o2.op = .indexAddr tB (.tmp bB) iB) (p3 : o3.op = .store tS2 (.tmp dB) (.tmp x2))
    (n1 : neTmp dA (.tmp x1) = true) (n2 : neTmp dA (.tmp bB) = true) (n3 : neTmp dA iB = true) (n4 : neTmp dA (.tmp x2) = true) (n5 : neTmp dB (.tmp x2) = true)
    {r j s m e1 e2 : Nat} {e : TypeId} {ks : List K} {xs : T (.sl e ks)} (hcell : v.cell r j = some ⟨s, m, .own (.sl e ks) xs⟩) {l1 l2 : List AV} (hx1 : v.get (.tmp x1) = some (.agg l1)) (hx2 : v.get (.tmp x2) = some (.agg l2))
    (hl1 : elCells ks (elAt xs e1) (fun c' _ _ => .pref r j s m e1 c') 0 ks.length = some l1) (hl2 : elCells ks (elAt xs e2) (fun c' _ _ => .pref r j s m e2 c') 0 ks.length = some l2)
    (hbA : v.get (.tmp bA) = some (.v (.ref r j s))) (hbB : v.get (.tmp bB) = some (.v (.ref r j s))) {tvA tvB : TV} {pA pB : IntKind × Int} (hiA : v.get iA = some tvA) (hpA : tvA.int? = some pA) (hiB : v.get iB = some tvB) (hpB : tvB.int? = some pB)
    {tnA tnB ts1 ts2 : TI} (hnA : E.sl tA = some tnA) (hnB : E.sl tB = some tnB) (ht1 : E.ti tS1 = some ts1) (ht2 : E.ti tS2 = some ts2) (cA : ks.length = tnA.ks.length) (cB : ks.length = tnB.ks.length) (c1 : ks.length = ts1.ks.length) (c2 : ks.length = ts2.ks.length)
    (idA : idxIs pA.2 (els xs).length e2 = true) (idB : idxIs pB.2 (els xs).length e1 = true) :
    wpOps P ops (QO cx E (.nrm (((v.setCell r j ⟨s, m + 1, .own (.sl e ks) (swpL (dfls ks) (els xs) e2 e1)⟩).bindT dA (.v .dead, none)).bindT dB (.v .dead, none)))) [k0, k0 + 1, k0 + 2, k0 + 3] a w := by
  have hc := hn.cons.cons
  obtain ⟨_, _, _, _, _, u4, huA⟩ := sl_desc hT hnA
  obtain ⟨_, _, _, _, _, u4', huB⟩ := sl_desc hT hnB
  have hsA := fun w => run_sizeOf' (hT _ tnA u4) (P := P) w
  have hsB := fun w => run_sizeOf' (hT _ tnB u4') (P := P) w
  simp only [idxIs, Bool.and_eq_true] at idA idB
  obtain ⟨iA0, iA1, iA2⟩ := idxOk_spec idA.1
  obtain ⟨iB0, iB1, iB2⟩ := idxOk_spec idB.1
  have eA := beq_eq idA.2
  have eB := beq_eq idB.2
  have hi2 : e2 < (els xs).length := by rw [← eA]; exact iA2
  have hi1 : e1 < (els xs).length := by rw [← eB]; exact iB2
  have viA : a.eval iA = .int pA.1 pA.2 := (int?_rel (get_rel h hc hiA) (show tvA.int? = some (pA.1, pA.2) from hpA)).1
  have viB : a.eval iB = .int pB.1 pB.2 := (int?_rel (get_rel h hc hiB) (show tvB.int? = some (pB.1, pB.2) from hpB)).1
  have vb : ∀ b, v.get (.tmp b) = some (.v (.ref r j s)) → a.eval (.tmp b) = g.cv r j := fun b hb => by
    obtain ⟨cc, y1, y2, y3⟩ := get_rel h hc hb
    rw [hcell] at y1
    cases y1
    exact y3 rfl
  have hown : Own w (.sl e ks) xs (g.cv r j) (g.fp r j) := h.cell r j _ hcell
  obtain ⟨B, O, L, C, hcv⟩ : ∃ B O L C, g.cv r j = .slice (some ⟨B, O, none⟩) L C := by
    obtain ⟨aa, cap, v1, v2, v3, v4, v5⟩ := hown
    cases aa with
    | none => have := v4 rfl; omega
    | some aa =>
      obtain ⟨b, o, _, _, _, rfl, _⟩ := v5 aa rfl
      exact ⟨b, o, _, _, v1⟩
  rw [hcv] at hown
  obtain ⟨cs, el, fr, z1, z2, z3, z4, z5, z6, z7⟩ := own_swap hown hi2 hi1
  obtain ⟨vs1, q1, q2⟩ := get_rel h hc hx1
  obtain ⟨vs2, q3, q4⟩ := get_rel h hc hx2
  obtain ⟨r1, r2, r3⟩ := el_vals h hcell hcv z3 (z6 e1 · hi1) hl1 q2
  obtain ⟨r4, r5, r6⟩ := el_vals h hcell hcv z3 (z6 e2 · hi2) hl2 q4
  have hfpl : ∀ b, g.fp r j b → b < w.heap.size := fun b hb => (h.fp r j b hb).1
  have hroom : ∀ i, i < (els xs).length → O + i * ks.length + ks.length ≤ cs.size := fun i hi => by
    have := Nat.mul_le_mul_right ks.length (show i + 1 ≤ (els xs).length from hi)
    rw [Nat.add_mul, Nat.one_mul] at this
    omega
  rw [wpOps_cons]
  refine wpOp_wop h0 g0 ?_
  have run0 : (execOp a.eval o0).run P w = .ok (.value (.pointer (some ⟨B, O + e2 * ks.length, none⟩))) w := by
    have := indexAt_run (P := P) (w := w) huA hsA (b := B) (o := O) (len := L) (cap := C) (k := pA.1) (n := pA.2) iA0 (by rw [z2]; exact iA1)
    rw [eA, ← cA] at this
    simp only [execOp, p0, vb bA hbA, hcv, viA]
    simp [this]
  unfold Oper.wp
  rw [run0, Oper.upon_value, d0]
  generalize hvA : Value.pointer (some ⟨B, O + e2 * ks.length, none⟩) = vA
  rw [wpOps_cons]
  refine wpOp_wop h1 g1 ?_
  have eA1 : (a.put (some dA) vA).eval (.tmp dA) = vA := eval_put_self (hsz.dst b0).1
  have ex1 : (a.put (some dA) vA).eval (.tmp x1) = .agg vs1 := by rw [Act.eval_put (neTmp_ne n1), q1]
  have hst1 := run_storeAt (P := P) (hT tS1 ts1 ht1) (w := w) (b := B) (o := O + e2 * ks.length) (v := .agg vs1) (vs := vs1.toList) rfl (by rw [r1, c1]) r3 (fun q hq => ⟨cs, el, fr, z3, by have := hroom e2 hi2; omega, z4 _ (by have := hroom e2 hi2; omega)⟩)
  rw [hvA] at hst1
  have run1 : (execOp (a.put (some dA) vA).eval o1).run P w = .ok .skip (w.setCells B (O + e2 * ks.length) vs1.toList) := by
    simp only [execOp, p1, Sem.run_bind, eA1, ex1, hst1, Result.andThen_ok]
    rfl
  unfold Oper.wp
  rw [run1, Oper.upon_skip, d1]
  obtain ⟨s1, s2, s3, s4, s5, s6⟩ := setCells_heap B vs1.toList (O + e2 * ks.length) w cs el fr z3
  generalize hw1 : w.setCells B (O + e2 * ks.length) vs1.toList = w1 at s1 s2 s3 s4 s5 s6
  show wpOps P ops _ [k0 + 2, k0 + 3] (a.put (some dA) vA) w1
  rw [wpOps_cons]
  refine wpOp_wop h2 g2 ?_
  have run2 : (execOp (a.put (some dA) vA).eval o2).run P w1 = .ok (.value (.pointer (some ⟨B, O + e1 * ks.length, none⟩))) w1 := by
    have := indexAt_run (P := P) (w := w1) huB hsB (b := B) (o := O) (len := L) (cap := C) (k := pB.1) (n := pB.2) iB0 (by rw [z2]; exact iB1)
    rw [eB, ← cB] at this
    simp only [execOp, p2, Act.eval_put (neTmp_ne n2), Act.eval_put (neTmp_ne n3), vb bB hbB, hcv, viB]
    simp [this]
  unfold Oper.wp
  rw [run2, Oper.upon_value, d2]
  generalize hvB : Value.pointer (some ⟨B, O + e1 * ks.length, none⟩) = vB
  have hsz1 := hsz.put (some dA) vA
  rw [wpOps_cons]
  refine wpOp_wop h3 g3 ?_
  have eB1 : ((a.put (some dA) vA).put (some dB) vB).eval (.tmp dB) = vB := eval_put_self (hsz1.dst b2).1
  have ex2 : ((a.put (some dA) vA).put (some dB) vB).eval (.tmp x2) = .agg vs2 := by rw [Act.eval_put (neTmp_ne n5), Act.eval_put (neTmp_ne n4), q3]
  have hst2 := run_storeAt (P := P) (hT tS2 ts2 ht2) (w := w1) (b := B) (o := O + e1 * ks.length) (v := .agg vs2) (vs := vs2.toList) rfl (by rw [r4, c2]) r6 (fun q hq => ⟨_, el, fr, s1, by rw [setFrom_size]; have := hroom e1 hi1; omega, z4 _ (by have := hroom e1 hi1; omega)⟩)
  rw [hvB] at hst2
  have run3 : (execOp ((a.put (some dA) vA).put (some dB) vB).eval o3).run P w1 = .ok .skip (w1.setCells B (O + e1 * ks.length) vs2.toList) := by
    simp only [execOp, p3, Sem.run_bind, eB1, ex2, hst2, Result.andThen_ok]
    rfl
  unfold Oper.wp
  rw [run3, Oper.upon_skip, d3]
  obtain ⟨s1', s2', s3', s4', s5', s6'⟩ := setCells_heap B vs2.toList (O + e1 * ks.length) w1 _ el fr s1
  generalize hw2 : w1.setCells B (O + e1 * ks.length) vs2.toList = w2 at s1' s2' s3' s4' s5' s6'
  have hother : ∀ q, q ≠ B → w2.heap[q]? = w.heap[q]? := fun q hq => (s2' q hq).trans (s2 q hq)
  have hsize : w2.heap.size = w.heap.size := s3'.trans s3
  have hlen : (swpL (dfls ks) (els xs) e2 e1).length = (els xs).length := swpL_len _ _ _ _
  have get1 : ∀ i q, i < (els xs).length → q < ks.length → (setFrom cs (O + e2 * ks.length) vs1.toList)[O + i * ks.length + q]? = if i = e2 then cs[O + e1 * ks.length + q]? else cs[O + i * ks.length + q]? := fun i q hi hq => by
    rw [setFrom_get _ _ _ _ (by rw [r1]; exact hroom e2 hi2), r1]
    by_cases ei : i = e2
    · subst ei
      rw [if_pos ⟨by omega, by omega⟩, if_pos rfl, show O + i * ks.length + q - (O + i * ks.length) = q by omega, r2 q hq]
    · rw [if_neg (idx_ne ei hq), if_neg ei]
  have get2 : ∀ i q, i < (els xs).length → q < ks.length → (setFrom (setFrom cs (O + e2 * ks.length) vs1.toList) (O + e1 * ks.length) vs2.toList)[O + i * ks.length + q]? = if i = e1 then cs[O + e2 * ks.length + q]? else if i = e2 then cs[O + e1 * ks.length + q]? else cs[O + i * ks.length + q]? := fun i q hi hq => by
    rw [setFrom_get _ _ _ _ (by rw [r4, setFrom_size]; exact hroom e1 hi1), r4]
    by_cases ei : i = e1
    · subst ei
      rw [if_pos ⟨by omega, by omega⟩, if_pos rfl, show O + i * ks.length + q - (O + i * ks.length) = q by omega, r5 q hq]
    · rw [if_neg (idx_ne ei hq), if_neg ei, get1 i q hi hq]
  have hown2 : Own w2 (.sl e ks) (swpL (dfls ks) (els xs) e2 e1) (.slice (some ⟨B, O, none⟩) L C) (g.fp r j) := by
    refine z7 w2 _ s1' (by rw [setFrom_size, setFrom_size]) (fun q hq => ?_) (fun q hq => ?_) (fun k q hk1 hk2 hq => ?_) (fun q _ hne _ => hother q hne) hfpl
    · rw [get2 e2 q hi2 hq]
      by_cases ee : e2 = e1
      · rw [if_pos ee, ee]
      · rw [if_neg ee, if_pos rfl]
    · rw [get2 e1 q hi1 hq, if_pos rfl]
    · rw [setFrom_get _ _ _ _ (by rw [r4, setFrom_size]; exact hroom e1 hi1), r4, if_neg (idx_ne hk2 hq), setFrom_get _ _ _ _ (by rw [r1]; exact hroom e2 hi2), r1, if_neg (idx_ne hk1 hq)]
  have hch := h.change hcell (c' := ⟨s, m + 1, .own (.sl e ks) (swpL (dfls ks) (els xs) e2 e1)⟩) (w' := w2) (v' := g.cv r j) (F' := g.fp r j) (s4'.trans s4) (s5'.trans s5) (s6'.trans s6) (by rw [hsize]; exact Nat.le_refl _) (Nat.le_refl _) (Nat.lt_succ_self _)
    (fun _ => rfl) (fun _ e' ks' xs' hx => by
      simp only [RV.own.injEq, K.sl.injEq] at hx
      obtain ⟨⟨rfl, rfl⟩, hx⟩ := hx
      have hx := eq_of_heq hx
      subst hx
      exact ⟨_, rfl, hlen⟩)
    (fun q hq hf _ => hother q fun e => hf (by rw [e]; exact z1))
    (fun q hq => by
      obtain ⟨k1, k2, k3, _⟩ := h.fp r j q hq
      exact ⟨by rw [hsize]; exact k1, k2, k3, fun r' j' hh => h.disj _ _ _ _ _ hh hq, fun r' R' hR' hx he => (h.box r' R' hR' hx).2.2.1 r j (by rw [he]; exact hq), _, _, rfl⟩)
    (fun R' hR' hx => by
      obtain ⟨_, _, b3, _, cs1, el1, fr1, b5, _, _, b8⟩ := h.box r R' hR' hx
      refine ⟨cs1, el1, fr1, cs1, b5, ?_, rfl, fun q hq => ?_⟩
      · rw [hother _ fun e => b3 r j (by rw [e]; exact z1)]; exact b5
      · rw [b8 q hq]
        by_cases e : q = j
        · subst e; rw [if_pos rfl]
        · rw [if_neg e])
    (fun kp => by
      show Own _ (.sl e ks) (swpL (dfls ks) (els xs) e2 e1) (g.cv r j) _
      rw [hcv]
      exact hown2)
  obtain ⟨hR, _⟩ := hch
  have hA := hR.bindV (d := dA) (tv := .v .dead) (v := vA) (hsz.dst b0) trivial
  have hB := hA.bindV (d := dB) (tv := .v .dead) (v := vB) (hsz1.dst b2) trivial
  refine ⟨fun t tv ht => ?_, (hsz1.put _ _).put _ _, Z, _, hB⟩
  rw [bindT_tm] at ht
  split at ht
  · simp only [Option.some.injEq] at ht; subst ht; exact fun h => h
  rw [bindT_tm] at ht
  split at ht
  · simp only [Option.some.injEq] at ht; subst ht; exact fun h => h
  rw [setCell_tm] at ht
  exact hn t tv ht
end
end Go.Av
namespace Go.Av
open Go.RowKit (Below)
def loadOf (l : List Oper) (n k x : Nat) : Option (Nat × Nat) := match l[k]? with
  | some o => (match o.op, o.dst with
    | .load t (.tmp p), some x' => bif Nat.blt k n && Nat.beq x' x then some (t, p) else none
    | _, _ => none)
  | none => none
def swapTail (E : En) (l : List Oper) (n k1 k2 : Nat) (v : St) : Tr St := match l.drop n with
  | [o0, o1, o2, o3] => (match o0.op, o1.op, o2.op, o3.op, o0.dst, o1.dst, o2.dst, o3.dst with
    | .indexAddr tA (.tmp bA) iA, .store tS1 (.tmp d1) (.tmp x1), .indexAddr tB (.tmp bB) iB, .store tS2 (.tmp d2) (.tmp x2), some dA, none, some dB, none =>
      Tr.ofO (loadOf l n k1 x1) fun L1 => Tr.ofO (loadOf l n k2 x2) fun L2 => Tr.ofO (E.sl tA) fun tnA => Tr.ofO (E.sl tB) fun tnB => Tr.ofO (E.ti tS1) fun ts1 => Tr.ofO (E.ti tS2) fun ts2 => Tr.ofO (E.ti L1.1) fun tl1 => Tr.ofO (E.ti L2.1) fun tl2 =>
      Tr.ofO (v.get iA) fun tvA => Tr.ofO tvA.int? fun pA => Tr.ofO (v.get iB) fun tvB => Tr.ofO tvB.int? fun pB =>
      (match look v.tm L1.2, look v.tm L2.2, v.get (.tmp bA), v.get (.tmp bB) with
      | some (.v (.pel r j s e1 q1)), some (.v (.pel r2 j2 s2 e2 q2)), some (.v (.ref rA jA sA)), some (.v (.ref rB jB sB)) => (match v.cell r j with
        | some ⟨s', m, .own (.sl e ks) xs⟩ =>
          bif ((Nat.beq d1 dA && Nat.beq d2 dB) && ((E.dB dA && E.dB dB) && ((neTmp dA (.tmp x1) && (neTmp dA (.tmp bB) && (neTmp dA iB && (neTmp dA (.tmp x2) && neTmp dB (.tmp x2))))) &&
            (tl1.agg && tl2.agg)))) && (((Nat.beq q1 0 && Nat.beq q2 0) && ((Nat.beq r2 r && (Nat.beq j2 j && Nat.beq s2 s)) && ((Nat.beq rA r && (Nat.beq jA j && Nat.beq sA s)) && ((Nat.beq rB r && (Nat.beq jB j && Nat.beq sB s)) && Nat.beq s' s)))) &&
            (Nat.beq ks.length tnA.ks.length && (Nat.beq ks.length tnB.ks.length && (Nat.beq ks.length ts1.ks.length && (Nat.beq ks.length ts2.ks.length && (Nat.beq tl1.ks.length ks.length && Nat.beq tl2.ks.length ks.length))))))
          then .need (idxIs pA.2 (els xs).length e2) (.need (idxIs pB.2 (els xs).length e1)
            (.ret (((v.setCell r j ⟨s, m + 1, .own (.sl e ks) (swpL (dfls ks) (els xs) e2 e1)⟩).bindT dA (.v .dead, none)).bindT dB (.v .dead, none))))
          else .fail
        | _ => .fail)
      | _, _, _, _ => .fail)
    | _, _, _, _, _, _, _, _ => .fail)
  | _ => .fail
def intsKnown (st : St) (ints : List Nat) : Bool := ints.all fun t => match st.get (.tmp t) with | some tv => tv.int?.isSome | none => false
def dstsB (E : En) (l : List Oper) : Bool := l.all fun o => match o.dst with | some d => E.dB d | none => true
def swapT (E : En) (ops : Array Oper) (ints : List Nat) (ex : List (Nat × Nat)) (n k1 k2 : Nat) (st : St) : Tr St :=
  bif hoistOk2 ops ints ex && (appPre (addE ex ops.toList 0) n && (intsKnown st ints && dstsB E ops.toList)) then
    (regT E true ((addE ex ops.toList 0).take n) (needs (addE ex ops.toList 0) [] ++ [0]) ((addE ex ops.toList 0).take n) 0 st []).bind fun v => bif noRoot v ((addE ex ops.toList 0).take n) then swapTail E (addE ex ops.toList 0) n k1 k2 v else .fail
  else .fail
section
variable {P : Program} {E : En}
theorem load_look {st v : St} {l : List Oper} {ns : List Nat} (hl0 : 0 < ns.length) (hng : hasGuard l = false) (hv : (regT E true l (ns ++ [0]) l 0 st []).run = some v) (hvrt : v.rt = st.rt) {k t p x : Nat} (hld : loadOf l l.length k x = some (t, p)) {ti : TI} (hti : E.ti t = some ti) (hag : ti.agg = true)
    (hNo : NoMay v) {r j s e1 : Nat} (hp : look v.tm p = some (.v (.pel r j s e1 0))) {s' m : Nat} {e : TypeId} {ks : List K} {xs : T (.sl e ks)} (hcell : v.cell r j = some ⟨s', m, .own (.sl e ks) xs⟩) (hs : s' = s) (hk : ti.ks.length = ks.length) :
    ∃ l1, look v.tm x = some (.agg l1) ∧ elCells ks (elAt xs e1) (fun c' _ _ => .pref r j s m e1 c') 0 ks.length = some l1 := by
  subst hs
  unfold loadOf at hld
  split at hld
  rotate_left
  · simp at hld
  rename_i o ho
  split at hld
  rotate_left
  · simp at hld
  rename_i t' p' x' hop hdst
  cases hb : Nat.blt k l.length && Nat.beq x' x with
  | false => rw [hb] at hld; simp at hld
  | true =>
  rw [hb] at hld
  simp only [cond_true, Option.some.injEq, Prod.mk.injEq] at hld
  obtain ⟨rfl, rfl⟩ := hld
  simp only [Bool.and_eq_true] at hb
  have hx := beq_eq hb.2
  subst hx
  obtain ⟨bs', g1, g2, _, g4⟩ := regT_look (E := E) (base := st) (fence_no hl0) hng l 0 [] _ (fun o ho => by
    obtain ⟨k, hk⟩ := List.getElem?_of_mem ho
    exact noGuard hng hk) trivial (fun e he => by simp at he) hv
  subst g2
  obtain ⟨d2, p2, mask, bs0, w1, w2, w3, w4⟩ := g4 k o ho
  rw [hdst] at w1
  cases w1
  have hroot2 : ∀ i' t p, (i', t, p) ∈ bs' → p.2 = none := fun i' t'' p hp => by
    cases hp2 : p.2 with
    | none => rfl
    | some R =>
      exfalso
      have hlr : look (viewAll st bs').rt t'' = some R := by
        rw [viewAll_eq st (bitsOf bs') bs' (fun i t p h => bitsOf_mem h), view_rt _ g1]
        exact .inl ⟨i', p, hp, bitsOf_mem hp, hp2⟩
      have := (g1.mem hp).2.2
      rw [hvrt] at hlr
      rw [hlr] at this
      simp at this
  have hrt : (viewAll st bs').rt = st.rt := viewAll_rt0 hroot2
  have hwrt : (view st mask bs0).rt = st.rt := view_rt0 fun i' t p hp => hroot2 i' t p (w3 _ hp)
  have hent2 : ∀ t' tv', look (view st mask bs0).tm t' = some tv' → look (viewAll st bs').tm t' = some tv' := fun t' tv' h => by
    rw [viewAll_tm g1]
    rcases view_some h with ⟨i', p, h1, h2⟩ | h1
    · exact .inl ⟨i', p, w3 _ h1, h2⟩
    · exact .inr h1
  have hnw : NoMay (view st mask bs0) := fun t' tv' h => hNo t' tv' (hent2 t' tv' h)
  rw [hop, qop_load, hti] at w4
  obtain ⟨ti2, r1, w4⟩ := Tr.run_ofO w4
  cases r1
  obtain ⟨tvB, r2, w5⟩ := Tr.run_ofO w4
  obtain ⟨aB, r3, w6⟩ := Tr.run_ofO w5
  obtain ⟨lB, r4, w7⟩ := Tr.run_ofO w6
  obtain ⟨tvR, r5, w8⟩ := Tr.run_ofO w7
  simp only [Tr.run, Option.some.injEq] at w8
  have r2 : (view st mask bs0).tv p' = some tvB := r2
  rw [tv_noMay hnw] at r2
  have := hent2 _ _ r2
  rw [hp] at this
  cases this
  simp only [TV.av?, Option.some.injEq] at r3
  subst r3
  have hcell2 : (view st mask bs0).cell r j = some ⟨s', m, .own (.sl e ks) xs⟩ := by
    have : (viewAll st bs').cell r j = (view st mask bs0).cell r j := by unfold St.cell; rw [hrt, hwrt]
    rw [← this]; exact hcell
  simp only [St.load, hcell2, Nat.beq_refl, cond_true] at r4
  rw [hk] at r4
  unfold wrapAgg at r5
  rw [hag] at r5
  simp only [Option.some.injEq] at r5
  refine ⟨lB, ?_, r4⟩
  rw [viewAll_tm g1]
  refine .inl ⟨_, _, w2, ?_⟩
  rw [← w8, ← r5]
theorem swap_sem (hT : TTok P E) (hga : GAok P E) (hm : P.follows .mixedOrders = true) {id : Nat} {ops : Array Oper} {ints : List Nat} {ex : List (Nat × Nat)} {n k1' k2' : Nat} : RegSem P E (.region id ops true) (swapT E ops ints ex n k1' k2') := by
  intro cx a w st st' h hrun
  unfold swapT at hrun
  cases hc : hoistOk2 ops ints ex && (appPre (addE ex ops.toList 0) n && (intsKnown st ints && dstsB E ops.toList)) with
  | false => rw [hc] at hrun; simp [Tr.run] at hrun
  | true =>
  rw [hc] at hrun
  simp only [cond_true] at hrun
  simp only [Bool.and_eq_true] at hc
  obtain ⟨hok, hpre, hints, hdB⟩ := hc
  obtain ⟨hn, hsz, Z, g, hr⟩ := h
  have hI : IntsOf ops ints (Array.replicate ops.size false) a := by
    refine ⟨fun k o d ho hd => ?_, fun b hb => ?_, fun k o d ho hm hl => ?_⟩
    · have h1 := List.all_eq_true.1 hdB o (by rw [Array.mem_toList_iff]; exact Array.mem_of_getElem? ho)
      rw [hd] at h1
      exact (hsz.dst h1).1
    · have h1 := List.all_eq_true.1 hints b hb
      split at h1
      · rename_i tv htv
        obtain ⟨p, hp⟩ := Option.isSome_iff_exists.1 h1
        obtain ⟨k, n'⟩ := p
        exact ⟨k, n', (int?_rel (get_rel hr hn.cons.cons htv) hp).1⟩
      · simp at h1
    · have hlt : k < ops.size := (Array.getElem?_eq_some_iff.1 ho).1
      simp [Array.getD_eq_getD_getElem?, hlt] at hl
  refine wp_region_any hm ?_
  refine hoist2 hok (fun ⟨a, w, hq⟩ => hq) (fun c a w hq => hq) ops.size _ a _ (by simp) hI ?_
  have e1 : (addA ex ops).toList = addE ex ops.toList 0 := by simp [addA]
  have hs := addA_size ex ops
  rw [← e1] at hrun hpre
  rw [← hs]
  generalize hops : addA ex ops = ops' at hrun hpre ⊢
  rw [hops] at hs
  simp only [appPre, Bool.and_eq_true, Bool.not_eq_true', List.all_eq_true, List.mem_range] at hpre
  obtain ⟨hed, hlen4, hng, hng', hneed, hchain⟩ := hpre
  have hl4 : ops'.size = n + 4 := by have := beq_eq hlen4; simpa using this
  have hi : n < ops'.size := by omega
  have hlen : (needs ops'.toList []).length = ops'.size := by rw [needs_len]; simp
  rw [Tr.run_bind] at hrun
  cases hv : (regT E true (ops'.toList.take n) (needs ops'.toList [] ++ [0]) (ops'.toList.take n) 0 st []).run with
  | none => rw [hv] at hrun; simp at hrun
  | some v =>
  rw [hv] at hrun
  simp only [Option.bind_some] at hrun
  cases hnr : noRoot v (ops'.toList.take n) with
  | false => rw [hnr] at hrun; simp [Tr.run] at hrun
  | true =>
  rw [hnr] at hrun
  simp only [cond_true] at hrun
  have hopst : (ops'.toList.take n).toArray.toList = ops'.toList.take n := by simp
  have hsize' : (ops'.toList.take n).toArray.size = n := by simp; omega
  have hops' : ∀ j, j < n → (ops'.toList.take n).toArray[j]? = ops'[j]? := fun j hj => by
    rw [← Array.getElem?_toList, hopst, List.getElem?_take, if_pos hj, Array.getElem?_toList]
  have hseg := regT_seg (P := P) (E := E) (ops := (ops'.toList.take n).toArray) (ns := needs ops'.toList [] ++ [0]) (i0 := 0) hT hga (dr := true) hn (ops'.toList.take n) 0 (by simp) (Nat.zero_le _) (Nat.le_refl _) [] v ⟨trivial, hn.MB, fun e he => by simp at he, fun _ _ _ _ he => by simp at he⟩ (by rw [hopst]; exact hv)
  obtain ⟨i1, bsF, k1, k2, k3, k4, k5, k6, k7, k8⟩ := hseg
  replace k5 := k5 (by rw [hopst]; exact hng')
  have hk8 : i1 = n ∧ v = viewAll st bsF := by
    rcases k8 with ⟨e1, e2⟩ | ⟨o', st'', e1, _, e3, _⟩
    · rw [hopst, hng'] at e2
      exact ⟨e1.trans hsize', e2⟩
    · exfalso
      have hi1 : i1 < n := by
        have := (Array.getElem?_eq_some_iff.1 e1).1
        rw [hsize'] at this
        exact this
      have hf := e3 rfl
      unfold fence at hf
      simp only [Bool.and_eq_true, List.all_eq_true, List.mem_range] at hf
      have := hf.2 (ops'.size - i1 - 1) (by rw [List.length_append, hlen]; simp; omega)
      rw [show i1 + 1 + (ops'.size - i1 - 1) = (needs ops'.toList []).length by rw [hlen]; omega] at this
      simp [List.getD] at this
  obtain ⟨rfl, rfl⟩ := hk8
  have hidx : ∀ e ∈ bsF, e.1 < i1 := fun e he => (k4 e he).2.1
  have hNA : NoMay (viewAll st bsF) := fun t tv ht => by
    rw [viewAll_tm k2] at ht
    rcases ht with ⟨i', p, h1, rfl⟩ | h1
    · exact k5 i' t p h1
    · exact hn t tv h1
  have hroot : ∀ i' t p, (i', t, p) ∈ bsF → p.2 = none := fun i' t' p hp => by
    cases hp2 : p.2 with
    | none => rfl
    | some R =>
      exfalso
      obtain ⟨_, h2, o', h3, h4⟩ := k4 _ hp
      have hmem : o' ∈ ops'.toList.take i1 := by
        rw [← hopst, Array.mem_toList_iff]
        exact Array.mem_of_getElem? h3
      have := List.all_eq_true.1 hnr o' hmem
      rw [h4] at this
      simp only [St.free] at this
      have hl : look (viewAll st bsF).rt t' = some R := by
        rw [viewAll_eq st (bitsOf bsF) bsF (fun i t p h => bitsOf_mem h), view_rt _ k2]
        exact .inl ⟨i', p, hp, bitsOf_mem hp, hp2⟩
      rw [hl] at this
      simp at this
  have hvrt : (viewAll st bsF).rt = st.rt := viewAll_rt0 hroot
  refine reg_pre (P := P) (E := E) (cx := cx) (Q := QO cx E (.nrm st')) hed hi (base := st) (bsF := bsF) ?_ hneed ?_ ?_ ops'.size (Array.replicate ops'.size false) 0 a _ Z g (by simp) (fun k hk => ?_) (fun k _ => Nat.zero_testBit k) (by rw [cnt_zero]; exact Nat.le_refl _) (fun k hk => by rw [Nat.zero_testBit] at hk; simp at hk) ?_ hsz
  · intro j hj cx S a w Z g next Q hS hSj hr hsz hnext
    have ho' : ∃ o', ops'[j]? = some o' := ⟨ops'[j]'(by omega), by simp⟩
    obtain ⟨o', ho'⟩ := ho'
    refine wpOp_same ho' (by rw [hops' j hj]; exact ho') (noGuard hng (by rw [Array.getElem?_toList]; exact ho')) ?_
    refine k7 j (Nat.zero_le _) hj cx S a w Z g next Q (fun k h1 h2 h3 => hS k h1 h2 ?_) hSj hr hsz hnext
    have hjl : j < (needs ops'.toList []).length := by rw [hlen]; omega
    rw [List.getD, List.getElem?_append_left hjl] at h3
    exact h3
  · intro k hk1 hk2
    unfold chained at hchain
    have := List.all_eq_true.1 hchain (k - i1 - 1) (List.mem_range.2 (by simp; omega))
    rw [show i1 + 1 + (k - i1 - 1) = k by omega, Array.getElem?_toList] at this
    split at this
    · rename_i o ho
      obtain ⟨e, he, h'⟩ := List.any_eq_true.1 this
      simp only [Bool.and_eq_true] at h'
      exact ⟨o, e, ho, by simpa using he, h'.1, by rw [beq_eq h'.2]; omega⟩
    · simp at this
  · intro a w Z g hr hsz
    have hv' : view st (2 ^ i1 - 1) bsF = viewAll st bsF := (viewAll_of fun e he => by rw [low_bits]; simpa using hidx e he).symm
    rw [hv'] at hr
    have : List.range' i1 (ops'.size - i1) = [i1, i1 + 1, i1 + 2, i1 + 3] := by
      rw [show ops'.size - i1 = 4 by omega]
      rfl
    rw [this]
    have hget : ∀ k, (ops'.toList.drop i1)[k]? = ops'[i1 + k]? := fun k => by rw [List.getElem?_drop, Array.getElem?_toList]
    unfold swapTail at hrun
    split at hrun
    rotate_left
    · simp [Tr.run] at hrun
    rename_i o0 o1 o2 o3 hL
    rw [hL] at hget
    have e0 : ops'[i1]? = some o0 := (hget 0).symm
    have e1 : ops'[i1 + 1]? = some o1 := (hget 1).symm
    have e2 : ops'[i1 + 2]? = some o2 := (hget 2).symm
    have e3 : ops'[i1 + 3]? = some o3 := (hget 3).symm
    have gd : ∀ {k : Nat} {o : Oper}, ops'[k]? = some o → o.guard = none := fun {k o} ho => noGuard hng (by rw [Array.getElem?_toList]; exact ho)
    split at hrun
    rotate_left
    · simp [Tr.run] at hrun
    rename_i tA bA iA tS1 d1 x1 tB bB iB tS2 d2 x2 dA dB p0 p1 p2 p3 q0 q1 q2 q3
    obtain ⟨L1, hL1, hrun⟩ := Tr.run_ofO hrun
    obtain ⟨L2, hL2, hrun⟩ := Tr.run_ofO hrun
    obtain ⟨tnA, hnA, hrun⟩ := Tr.run_ofO hrun
    obtain ⟨tnB, hnB, hrun⟩ := Tr.run_ofO hrun
    obtain ⟨ts1, ht1, hrun⟩ := Tr.run_ofO hrun
    obtain ⟨ts2, ht2, hrun⟩ := Tr.run_ofO hrun
    obtain ⟨tl1, hl1, hrun⟩ := Tr.run_ofO hrun
    obtain ⟨tl2, hl2, hrun⟩ := Tr.run_ofO hrun
    obtain ⟨tvA, hiA, hrun⟩ := Tr.run_ofO hrun
    obtain ⟨pA, hpA, hrun⟩ := Tr.run_ofO hrun
    obtain ⟨tvB, hiB, hrun⟩ := Tr.run_ofO hrun
    obtain ⟨pB, hpB, hrun⟩ := Tr.run_ofO hrun
    split at hrun
    rotate_left
    · simp [Tr.run] at hrun
    rename_i r j s ee1 qq1 r2 j2 s2 ee2 qq2 rA jA sA rB jB sB hp1 hp2 hbA hbB
    split at hrun
    rotate_left
    · simp [Tr.run] at hrun
    rename_i s' m e ks xs hcell
    generalize hc : (((Nat.beq d1 dA && Nat.beq d2 dB) && ((E.dB dA && E.dB dB) && ((neTmp dA (.tmp x1) && (neTmp dA (.tmp bB) && (neTmp dA iB && (neTmp dA (.tmp x2) && neTmp dB (.tmp x2))))) &&
            (tl1.agg && tl2.agg)))) && (((Nat.beq qq1 0 && Nat.beq qq2 0) && ((Nat.beq r2 r && (Nat.beq j2 j && Nat.beq s2 s)) && ((Nat.beq rA r && (Nat.beq jA j && Nat.beq sA s)) && ((Nat.beq rB r && (Nat.beq jB j && Nat.beq sB s)) && Nat.beq s' s)))) &&
            (Nat.beq ks.length tnA.ks.length && (Nat.beq ks.length tnB.ks.length && (Nat.beq ks.length ts1.ks.length && (Nat.beq ks.length ts2.ks.length && (Nat.beq tl1.ks.length ks.length && Nat.beq tl2.ks.length ks.length))))))) = cond at hrun
    cases cond with
    | false => simp [Tr.run] at hrun
    | true =>
    simp only [cond_true] at hrun
    obtain ⟨idA, hrun⟩ := Tr.run_need hrun
    obtain ⟨idB, hrun⟩ := Tr.run_need hrun
    simp only [Tr.run, Option.some.injEq] at hrun
    subst hrun
    simp only [Bool.and_eq_true] at hc
    obtain ⟨⟨⟨c1, c2⟩, ⟨b0, b2⟩, ⟨n1, n2, n3, n4, n5⟩, ag1, ag2⟩, ⟨⟨z1, z2⟩, ⟨y1, y2, y3⟩, ⟨y4, y5, y6⟩, ⟨y7, y8, y9⟩, y10⟩, w1, w2, w3, w4, w5, w6⟩ := hc
    have c1 := beq_eq c1; have c2 := beq_eq c2; have z1 := beq_eq z1; have z2 := beq_eq z2
    have y1 := beq_eq y1; have y2 := beq_eq y2; have y3 := beq_eq y3; have y4 := beq_eq y4; have y5 := beq_eq y5; have y6 := beq_eq y6; have y7 := beq_eq y7; have y8 := beq_eq y8; have y9 := beq_eq y9; have y10 := beq_eq y10
    subst c1; subst c2; subst z1; subst z2; subst y1; subst y2; subst y3; subst y4; subst y5; subst y6; subst y7; subst y8; subst y9; subst y10
    have hlt : (ops'.toList.take i1).length = i1 := by simp; omega
    have ldT : ∀ {k x : Nat} {L : Nat × Nat}, loadOf ops'.toList i1 k x = some L → loadOf (ops'.toList.take i1) (ops'.toList.take i1).length k x = some L := fun {k x L} h => by
      rw [hlt]
      unfold loadOf at h ⊢
      split at h
      rotate_left
      · simp at h
      rename_i o ho
      split at h
      rotate_left
      · simp at h
      rename_i t' p' x' hop hdst
      have hk : k < i1 := by
        cases hb : Nat.blt k i1 with
        | true => exact Nat.lt_of_succ_le (Nat.le_of_ble_eq_true hb)
        | false => rw [hb] at h; simp at h
      rw [List.getElem?_take, if_pos hk, ho]
      simp only [hop, hdst]
      exact h
    have hn0 : 0 < (needs ops'.toList []).length := by rw [hlen]; omega
    obtain ⟨l1, u1, u2⟩ := load_look hn0 hng' hv hvrt (ldT hL1) hl1 ag1 hNA hp1 hcell rfl (beq_eq w5)
    obtain ⟨l2, u3, u4⟩ := load_look hn0 hng' hv hvrt (ldT hL2) hl2 ag2 hNA hp2 hcell rfl (beq_eq w6)
    have gx : ∀ {x : Nat} {l : List AV}, look (viewAll st bsF).tm x = some (.agg l) → (viewAll st bsF).get (.tmp x) = some (.agg l) := fun {x l} h => by
      show (viewAll st bsF).tv x = _
      rw [tv_noMay hNA]; exact h
    exact swap_step hT hr hNA hsz e0 e1 e2 e3 (gd e0) (gd e1) (gd e2) (gd e3) q0 q1 q2 q3 b0 b2 p0 p1 p2 p3 n1 n2 n3 n4 n5 hcell (gx u1) (gx u3) u2 u4 hbA hbB hiA hpA hiB hpB hnA hnB ht1 ht2 (beq_eq w1) (beq_eq w2) (beq_eq w3) (beq_eq w4) idA idB
  · rw [Nat.zero_testBit]
    simp [Array.getD_eq_getD_getElem?, hk]
  · rw [view_none fun e _ => Nat.zero_testBit _]
    exact hr.world rfl rfl rfl rfl
theorem swap_of (hT : TTok P E) (hga : GAok P E) (hm : P.follows .mixedOrders = true) {c : Code} {id : Nat} {ints : List Nat} {ex : List (Nat × Nat)} {n k1 k2 : Nat} (h : c = .region id (opsOf c) true) : RegSem P E c (swapT E (opsOf c) ints ex n k1 k2) := by
  rw [h]
  exact swap_sem hT hga hm
end
end Go.Av
namespace Go.Av
noncomputable def fixG {β : Type} (G : Nat → Option β) : Option β :=
  open Classical in if h : ∃ (y : β) (n : Nat), ∀ m, n ≤ m → G m = some y then some (Classical.choose h) else none
theorem fixG_some {β : Type} {G : Nat → Option β} {y : β} (h : fixG G = some y) : ∃ n, G n = some y := by
  unfold fixG at h
  split at h
  · rename_i hh
    obtain ⟨n, hn⟩ := Classical.choose_spec hh
    rw [Option.some.inj h] at hn
    exact ⟨n, hn n (Nat.le_refl _)⟩
  · simp at h
theorem fixG_eq {β : Type} {G : Nat → Option β} {y : β} {n : Nat} (h : ∀ m, n ≤ m → G m = some y) : fixG G = some y := by
  unfold fixG
  have hh : ∃ (y : β) (n : Nat), ∀ m, n ≤ m → G m = some y := ⟨y, n, h⟩
  rw [dif_pos hh]
  obtain ⟨n', hn'⟩ := Classical.choose_spec hh
  have h1 := h (n + n') (by omega)
  have h2 := hn' (n + n') (by omega)
  rw [h1] at h2
  rw [h2]
theorem SuOK.zero {P : Program} {f : Nat} {s : Su} (h : ∀ x, s.ans x = none) : SuOK P f s := fun w Z F args x y _ _ _ _ hy => by
  rw [h x] at hy
  simp at hy
theorem SuOK.fix {P : Program} {f : Nat} {ps : List PK} {rs : List (Bool × List K)} {fr : Bool} {G : Nat → PT ps → Option (IOT ps × CT rs)} (h : ∀ n, SuOK P f ⟨ps, rs, fr, .inl (G n)⟩) : SuOK P f ⟨ps, rs, fr, .inl fun x => fixG fun n => G n x⟩ := by
  intro w Z F args x y h1 h2 h3 h4 hy
  obtain ⟨n, hn⟩ := fixG_some (show fixG (fun n => G n x) = some y from hy)
  exact h n w Z F args x y h1 h2 h3 h4 hn
end Go.Av
namespace Go.Av
open Go.RowKit (Below)
section
variable {P : Program} {w : World} {E : En}
theorem own_split {e : TypeId} {ks : List K} {xs : T (.sl e ks)} {aa : Option Addr} {l cap n : Nat} {F : Nat → Prop} (h : Own w (.sl e ks) xs (.slice aa l cap) F) (hn : n ≤ l) :
    ∃ (FH FR : Nat → Prop) (news : List Value) (H : Nat → Nat → Nat → Prop), NewRows w ks (List.take n (els xs)) news H FH ∧ (Builtin.lenOf (.slice aa n cap)).run P w = .ok (List.take n (els xs)).length w ∧
      (∀ w1 : World, w1.heap = w.heap → (Builtin.firstCells ks.length (List.take n (els xs)).length (.slice aa n cap)).run P w1 = .ok news.toArray w1) ∧
      Own w (.sl e ks) (List.drop n (els xs)) (.slice (if cap = n then aa else aa.map (·.add (n * ks.length))) (l - n) (cap - n)) FR ∧ (∀ q, FH q → F q ∧ ¬ FR q) ∧ (∀ q, FR q → F q) ∧ l = (els xs).length ∧ l ≤ cap := by
  obtain ⟨a', c', h1, h2, h3, h4, h5⟩ := h
  simp only [Value.slice.injEq] at h1
  obtain ⟨rfl, rfl, rfl⟩ := h1
  have hlt : (List.take n (els xs)).length = n := (List.length_take (l := els xs) (i := n)).trans (Nat.min_eq_left hn)
  have hld : (els (e := e) (ks := ks) (List.drop n (els xs))).length = (els xs).length - n := List.length_drop ..
  cases aa with
  | none =>
    have hc := h4 rfl
    have hn0 : n = 0 := by omega
    have hx0 : els xs = [] := List.length_eq_zero_iff.1 (by omega)
    subst hn0
    refine ⟨fun _ => False, fun _ => False, [], fun _ _ _ => False, ⟨by simp, by simp, fun _ _ _ h => h.elim, fun _ _ _ _ _ h => h.elim, fun i y hi => by simp at hi⟩, by rw [hlt]; rfl, fun w1 _ => by rw [hlt]; exact run_firstCells_none (P := P) w1 _ _ _ _, ?_, fun _ h => h.elim, fun _ h => h.elim, rfl, h2⟩
    rw [hc, hx0]
    exact Own_nil e ks
  | some aa =>
    obtain ⟨b, o, cs, el, fr, rfl, k2, k3, k4, k5, G, k6, k7, k8⟩ := h5 _ rfl
    have hcn : n * ks.length ≤ cap * ks.length := Nat.mul_le_mul_right _ (by omega)
    have hbound : ∀ q, q < n * ks.length → o + q < cs.size := fun q hq => by omega
    have hnl : ∀ q, q < n * ks.length → ((List.range (n * ks.length)).map fun q => cs.getD (o + q) undef)[q]? = cs[o + q]? := fun q hq => by
      have := hbound q hq
      simp [hq, this]
    have hrow : ∀ i x, (List.take n (els xs))[i]? = some x → i < n ∧ (els xs)[i]? = some x := fun i x hx => by
      rw [List.getElem?_take] at hx
      split at hx
      · rename_i hi; exact ⟨hi, hx⟩
      · simp at hx
    refine ⟨fun q => ∃ i j, i < n ∧ G i j q, fun q => q = b ∨ ∃ i j, n ≤ i ∧ G i j q, (List.range (n * ks.length)).map fun q => cs.getD (o + q) undef, fun i j q => i < n ∧ G i j q, ⟨by rw [hlt]; simp, fun u hu => ?_, fun i j b' hb' => ⟨i, j, hb'⟩, fun i j i' j' q h1 h2 => k7 _ _ _ _ q h1.2 h2.2, fun i y hi => ?_⟩, by rw [hlt]; rfl, fun w1 hw1 => ?_, ?_, fun q ⟨i, j, hi, hq⟩ => ⟨(k6 i j q hq).1, ?_⟩, fun q hq => ?_, rfl, h2⟩
    · obtain ⟨q, hq, rfl⟩ := List.mem_map.1 hu
      obtain ⟨q1, q2, q3⟩ := split_idx (List.mem_range.1 hq)
      obtain ⟨v, f1, f2⟩ := Ownl_one ks _ 0 _ (q % ks.length) (k8 _ _ (List.getElem?_eq_getElem (show q / ks.length < (els xs).length by omega))) q2
      rw [Nat.add_assoc, ← q3] at f1
      rw [Array.getD_eq_getD_getElem?, f1]
      exact f2
    · obtain ⟨hil, hi'⟩ := hrow i y hi
      refine Ownl_move ks y 0 (G i) _ cs _ _ _ (fun q hq => ?_) (fun _ _ h => ⟨hil, h⟩) (fun _ _ _ _ => rfl) (k8 i y hi')
      rw [List.getElem?_toArray, hnl _ (idx_lt hil hq), Nat.add_assoc]
    · rw [hlt]
      refine run_firstCells_some (P := P) w1 _ _ ⟨b, o, none⟩ _ _ _ (by simp) fun j v hj => ?_
      have hjl : j < n * ks.length := by
        rcases Nat.lt_or_ge j (n * ks.length) with hh | hh
        · exact hh
        · rw [List.getElem?_eq_none (by simpa using hh)] at hj; simp at hj
      rw [hnl j hjl] at hj
      rw [add_mk]
      simp only [World.cell?, hw1, k3]
      exact hj
    · have hsub : n * ks.length + (cap - n) * ks.length = cap * ks.length := by
        rw [← Nat.add_mul]; congr 1; omega
      have hget : ∀ i x, (List.drop n (els xs))[i]? = some x → Ownl w ks x 0 (G (n + i)) cs (o + (n + i) * ks.length) := fun i x hx => by
        rw [List.getElem?_drop] at hx
        exact k8 _ _ hx
      refine ⟨_, cap - n, by rw [hld], by rw [hld]; omega, by rw [hld]; omega, fun h0 => ?_, fun a'' ha'' => ?_⟩
      · split at h0
        · simp at h0
        · simp at h0
      · split at ha''
        · rename_i hcap
          simp only [Option.some.injEq] at ha''
          subst ha''
          refine ⟨b, o, cs, el, fr, rfl, .inl rfl, k3, k4, by rw [hcap]; simp; omega, fun i j q => G (n + i) j q, fun i j q hq => ⟨.inr ⟨n + i, j, by omega, hq⟩, (k6 _ _ q hq).2⟩, fun i j i' j' q h1 h2 => ?_, fun i x hx => ?_⟩
          · obtain ⟨e1, e2⟩ := k7 _ _ _ _ q h1 h2
            exact ⟨by omega, e2⟩
          · exfalso
            have hx' : (List.drop n (els xs))[i]? = some x := hx
            rw [List.getElem?_eq_none (by rw [List.length_drop]; omega)] at hx'
            simp at hx'
        · rename_i hcap
          simp only [Option.map_some, Option.some.injEq, add_mk] at ha''
          subst ha''
          refine ⟨b, o + n * ks.length, cs, el, fr, rfl, .inl rfl, k3, k4, by omega, fun i j q => G (n + i) j q, fun i j q hq => ⟨.inr ⟨n + i, j, by omega, hq⟩, (k6 _ _ q hq).2⟩, fun i j i' j' q h1 h2 => ?_, fun i x hx => ?_⟩
          · obtain ⟨e1, e2⟩ := k7 _ _ _ _ q h1 h2
            exact ⟨by omega, e2⟩
          · have := hget i x hx
            rw [Nat.add_mul, ← Nat.add_assoc] at this
            exact this
    · rintro (e | ⟨i', j', hi', hq'⟩)
      · exact (k6 i j q hq).2 e
      · have := (k7 _ _ _ _ q hq hq').1
        omega
    · rcases hq with rfl | ⟨i, j, _, hq⟩
      · exact k2
      · exact (k6 i j q hq).1
end
end Go.Av
namespace Go.Av
open Go.RowKit (Below)
def splitEnd (st5 : St) (r j s tO d2 d3 d4 d5 d6 : Nat) (k : IntKind) (n : Int) (kk : K) (z : T kk) : St :=
  (((((st5.bindT d2 (.v .dead, none)).bindT d3 (.v (.d (.int k) n), none)).bindT d4 (.v .dead, none)).bindT tO (.v (.pre r j (s + 1) n.toNat), none)).bindT d5 (.v (.ref d5 0 0), some ⟨false, [⟨0, 0, .own kk z⟩]⟩)).bindT d6 (.v (.ref d5 0 0), none)
def ne2 (a b : Nat) : Bool := !Nat.beq a b
theorem ne2_ne {a b : Nat} (h : ne2 a b = true) : a ≠ b := by
  simp only [ne2, Bool.not_eq_true'] at h
  exact Nat.ne_of_beq_eq_false h
def notBox (st : St) (r : Nat) : Bool := match look st.rt r with | some R => !R.box | none => false
def splitF (E : En) (op1 : Op) (tS tA tA2 tO tK d1 d2 d3 d4 d5 d6 : Nat) (st : St) : Tr St :=
  (qop E st d1 op1).bind fun p => Tr.ofO (E.ti tA) fun ti => Tr.ofO (E.sl tA) fun te => Tr.ofO (E.sl tS) fun tn => Tr.ofO p.1.av? fun av1 => Tr.ofO ((st.bindT d1 p).takeAs (.sl ti.elem te.ks) av1) fun q =>
  (match st.tv tO, st.tv tK with
  | some (.v (.ref r j s)), some (.v (.d (.int k) n)) => (match q.1.cell r j with
    | some ⟨s', m, .own k0 x0⟩ => Tr.ofO (castK k0 (.sl ti.elem te.ks) x0) fun xs =>
      bif (Nat.beq s' s && (Nat.beq tn.ks.length te.ks.length && (E.str tA2 || (E.sl tA2).isSome))) && ((q.1.free d5 && (Nat.blt 0 te.bytes && (st.free d1 && notBox q.1 r))) && ((E.dB d1 && (E.dB d2 && (E.dB d3 && (E.dB d4 && (E.dB d5 && (E.dB d6 && E.dB tO)))))) &&
        ((ne2 tO d1 && (ne2 tO d2 && (ne2 tO d3 && (ne2 tO d4)))) && ((ne2 tK d1 && ne2 tK d2) && (ne2 d1 d2 && (ne2 d1 d3 && (ne2 d1 d4 && ne2 d2 d3)))))))
      then .need (cutOk 0 n (els xs).length) (.need (Nat.ble (((els q.2).length + n.toNat) * te.bytes) big)
        (.ret (splitEnd (q.1.setCell r j ⟨s + 1, m + 1, .own (.sl ti.elem te.ks) (List.drop n.toNat (els xs))⟩) r j s tO d2 d3 d4 d5 d6 k n (.sl ti.elem te.ks) (cat te.ks (els q.2) (List.take n.toNat (els xs))))))
      else .fail
    | _ => .fail)
  | _, _ => .fail)
section
variable {P : Program} {E : En} {cx : Cx} {Z : Nat → Prop} {g : Gh} {st v : St} {a : Act} {w : World}
theorem NoMay.bind {st : St} (h : NoMay st) {d : Nat} {b : AV} {R : Option Rt} : NoMay (st.bindT d (.v b, R)) := fun t tv ht => by
  rw [bindT_tm] at ht
  split at ht
  · simp only [Option.some.injEq] at ht; subst ht; exact fun h => h
  · exact h t tv ht
theorem tv_bindNe {st : St} (h : NoMay st) {d t : Nat} (hne : t ≠ d) {b : AV} {R : Option Rt} : (st.bindT d (.v b, R)).tv t = st.tv t := by
  rw [tv_noMay (NoMay.bind h), tv_noMay h, bindT_tm, if_neg (fun e => hne e.symm)]
theorem put_same {a : Act} {d : Nat} {v : Value} (h : a.eval (.tmp d) = v) (hd : d < a.tmps.size) : a.put (some d) v = a := by
  have h : a.tmps.getD d undef = v := h
  have : a.tmps.setIfInBounds d v = a.tmps := by
    apply Array.ext_getElem?
    intro i
    rw [Array.getElem?_setIfInBounds]
    by_cases e : d = i
    · subst e
      rw [if_pos rfl, if_pos hd, ← h]
      simp [Array.getD_eq_getD_getElem?, hd]
    · rw [if_neg e]
  cases a
  simp only [Act.put] at this ⊢
  congr 1
theorem split_sem (hT : TTok P E) (hga : GAok P E) {rid tS tA tA2 tO tK d1 d2 d3 d4 d5 d6 : Nat} {o1 o2 o3 o4 o5 o6 : Oper} {c : Call} {tys : List Nat}
    (e1 : o1.dst = some d1) (g1 : o1.guard = none) (e2 : o2.dst = some d2) (p2 : o2.op = .move (.tmp tO)) (g2 : o2.guard = none) (e3 : o3.dst = some d3) (p3 : o3.op = .move (.tmp tK)) (g3 : o3.guard = none)
    (e4 : o4.dst = some d4) (p4 : o4.op = .slice tS (.tmp d2) none (some (.tmp d3)) none) (g4 : o4.guard = none) (e5 : o5.dst = some d5) (p5 : o5.op = .call c) (g5 : o5.guard = none) (hcal : c.callee = .builtin .append) (hargs : c.args.toList = [.tmp d1, .tmp d4]) (hts : c.argTypes.toList = tA :: tA2 :: tys)
    (e6 : o6.dst = some d6) (p6 : o6.op = .assign (.tmp d5)) (g6 : o6.guard = none) :
    RegSem P E (.region rid #[o1, o2, o3, o4, o5, o6] false) (splitF E o1.op tS tA tA2 tO tK d1 d2 d3 d4 d5 d6) := by
  intro cx a w st st' h hrun
  unfold splitF at hrun
  rw [Tr.run_bind] at hrun
  cases hq1 : (qop E st d1 o1.op).run with
  | none => rw [hq1] at hrun; simp at hrun
  | some p =>
  rw [hq1] at hrun
  simp only [Option.bind_some] at hrun
  obtain ⟨ti, hti, hrun⟩ := Tr.run_ofO hrun
  obtain ⟨te, hte, hrun⟩ := Tr.run_ofO hrun
  obtain ⟨tn, htn, hrun⟩ := Tr.run_ofO hrun
  obtain ⟨av1, hav1, hrun⟩ := Tr.run_ofO hrun
  obtain ⟨⟨st2, y0⟩, htk, hrun⟩ := Tr.run_ofO hrun
  simp only at hrun
  split at hrun
  rotate_left
  · simp [Tr.run] at hrun
  rename_i r j s k n hO hK
  split at hrun
  rotate_left
  · simp [Tr.run] at hrun
  rename_i s' m k0 x0 hcell
  obtain ⟨xs, hxs, hrun'⟩ := Tr.run_ofO hrun
  clear hrun
  have hrun := hrun'; clear hrun'
  obtain ⟨rfl, hxs⟩ := castK_some hxs
  simp only at hxs
  obtain rfl := hxs.symm
  generalize hc : ((Nat.beq s' s && (Nat.beq tn.ks.length te.ks.length && (E.str tA2 || (E.sl tA2).isSome))) && ((st2.free d5 && (Nat.blt 0 te.bytes && (st.free d1 && notBox st2 r))) && ((E.dB d1 && (E.dB d2 && (E.dB d3 && (E.dB d4 && (E.dB d5 && (E.dB d6 && E.dB tO)))))) &&
        ((ne2 tO d1 && (ne2 tO d2 && (ne2 tO d3 && (ne2 tO d4)))) && ((ne2 tK d1 && ne2 tK d2) && (ne2 d1 d2 && (ne2 d1 d3 && (ne2 d1 d4 && ne2 d2 d3)))))))) = cond at hrun
  cases cond with
  | false => simp [Tr.run] at hrun
  | true =>
  simp only [cond_true] at hrun
  obtain ⟨hcut, hrun⟩ := Tr.run_need hrun
  obtain ⟨hble, hrun⟩ := Tr.run_need hrun
  simp only [Tr.run, Option.some.injEq] at hrun
  subst hrun
  simp only [Bool.and_eq_true] at hc
  obtain ⟨⟨cs1, cs2, hstr⟩, ⟨hfree5, hby, hfree1, hnb⟩, ⟨b1, b2, b3, b4, b5, b6, bO⟩, ⟨nO1, nO2, nO3, nO4⟩, ⟨nK1, nK2⟩, n12, n13, n14, n23⟩ := hc
  have cs1 := beq_eq cs1
  subst cs1
  have cs2 := beq_eq cs2
  have hby : 0 < te.bytes := Nat.lt_of_succ_le (Nat.le_of_ble_eq_true hby)
  have nO1 := ne2_ne nO1; have nO2 := ne2_ne nO2; have nO3 := ne2_ne nO3; have nO4 := ne2_ne nO4; have nK1 := ne2_ne nK1; have nK2 := ne2_ne nK2
  have n12 := ne2_ne n12; have n13 := ne2_ne n13; have n14 := ne2_ne n14; have n23 := ne2_ne n23
  obtain ⟨q0, q1, q2⟩ := cutOk_spec hcut
  obtain ⟨ks0, _, _, _, q4⟩ := sl_ti hT hte hti
  have hTe := hT _ _ q4
  obtain ⟨tt, ks1, t1, _, _, _, hu⟩ := sl_desc hT hte
  rw [hti] at t1
  simp only [Option.some.injEq] at t1
  subst t1
  obtain ⟨dd2, hu2, hd2⟩ : ∃ d2, P.underlying tA2 = some d2 ∧ ∀ k, d2 ≠ .int k := by
    rw [Bool.or_eq_true] at hstr
    rcases hstr with h2 | h2
    · exact ⟨_, str_desc hT h2, fun _ h => by simp at h⟩
    · obtain ⟨te2, h2⟩ := Option.isSome_iff_exists.1 h2
      obtain ⟨_, _, _, _, _, _, hu2⟩ := sl_desc hT h2
      exact ⟨_, hu2, fun _ h => by simp at h⟩
  obtain ⟨_, _, _, _, _, u4, huS⟩ := sl_desc hT htn
  have hsS := fun w => run_sizeOf' (hT _ tn u4) (P := P) w
  obtain ⟨hn, hsz, Z, g, hr⟩ := h
  refine wp_region ?_
  show wpOps P #[o1, o2, o3, o4, o5, o6] _ [0, 1, 2, 3, 4, 5] a w
  rw [wpOps_cons]
  refine wpOp_wop (i := 0) rfl g1 ?_
  refine qop_sound hT hga ⟨fun _ _ h => h, fun _ _ h => h⟩ hr hn.cons e1 (hsz.dst b1) hfree1 hq1 _ _ fun Z1 gg1 v1 w1 hr1 => ?_
  have hp1 : p = (.v av1, p.2) := by
    obtain ⟨pa, pb⟩ := p
    cases pa with
    | v av => simp only [TV.av?, Option.some.injEq] at hav1; subst hav1; rfl
    | _ => simp [TV.av?] at hav1
  have hsz1 : Fit cx E (a.put (some d1) v1) := hsz.put _ _
  generalize ha1 : a.put (some d1) v1 = a1 at hr1 hsz1 ⊢
  have hn1 : NoMay (st.bindT d1 p) := by rw [hp1]; exact hn.bind
  have hx1 : (st.bindT d1 p).get (.tmp d1) = some (.v av1) := by
    show St.tv _ d1 = _
    rw [tv_noMay hn1, bindT_tm, if_pos rfl, hp1]
  obtain ⟨gg2, F1, k1, k2, k3, k4, k5, k6, k7⟩ := takeAs_rel hr1 (get_rel hr1 hn1.cons.cons hx1) htk
  have hn2 : NoMay st2 := fun t tv ht => hn1 t tv (by rw [← k2.tm]; exact ht)
  have hO2 : st2.get (.tmp tO) = some (.v (.ref r j s')) := by
    rw [get_tm k2.tm]
    show St.tv _ tO = _
    rw [hp1, tv_bindNe hn nO1]
    exact hO
  have hK2 : st2.get (.tmp tK) = some (.v (.d (.int k) n)) := by
    rw [get_tm k2.tm]
    show St.tv _ tK = _
    rw [hp1, tv_bindNe hn nK1]
    exact hK
  have vO : a1.eval (.tmp tO) = gg2.cv r j := by
    obtain ⟨cc, y1, y2, y3⟩ := get_rel k1 hn2.cons.cons hO2
    rw [hcell] at y1
    cases y1
    exact y3 rfl
  have hown : Own w1 (.sl ti.elem te.ks) xs (gg2.cv r j) (gg2.fp r j) := k1.cell r j _ hcell
  obtain ⟨aa, cap, v0, v2, v3, v4, v5⟩ := hown
  have hown : Own w1 (.sl ti.elem te.ks) xs (gg2.cv r j) (gg2.fp r j) := k1.cell r j _ hcell
  rw [v0] at hown
  obtain ⟨FH, FR, news, H, w0, wl, wc, wr, wfh, wfr, wlen, wcap⟩ := own_split (P := P) hown (n := n.toNat) (by omega)
  generalize htail : Value.slice (if cap = n.toNat then aa else aa.map (·.add (n.toNat * te.ks.length))) ((els xs).length - n.toNat) (cap - n.toNat) = vt at wr
  have hld : (List.drop n.toNat (els xs)).length = (els xs).length - n.toNat := List.length_drop ..
  have hlt : (List.take n.toNat (els xs)).length = n.toNat := (List.length_take (l := els xs) (i := n.toNat)).trans (Nat.min_eq_left (by omega))
  have hch := k1.change hcell (c' := ⟨s' + 1, m + 1, .own (.sl ti.elem te.ks) (List.drop n.toNat (els xs))⟩) (w' := w1) (v' := vt) (F' := FR) rfl rfl rfl (Nat.le_refl _) (Nat.le_succ _) (Nat.lt_succ_self _)
    (fun e => absurd e (Nat.succ_ne_self _)) (fun e => absurd e (Nat.succ_ne_self _)) (fun _ _ _ _ => rfl)
    (fun q hq => by
      have hq' := wfr q hq
      obtain ⟨z1, z2, z3, _⟩ := k1.fp r j q hq'
      exact ⟨z1, z2, z3, fun r' j' hh => k1.disj _ _ _ _ _ hh hq', fun r' R' hR' hx he => (k1.box r' R' hR' hx).2.2.1 r j (by rw [he]; exact hq'), _, _, rfl⟩)
    (fun R' hR' hx => by
      unfold notBox at hnb
      rw [hR'] at hnb
      simp [hx] at hnb)
    (fun kp => wr)
  obtain ⟨h3, m3⟩ := hch
  generalize hst3 : st2.setCell r j ⟨s' + 1, m + 1, .own (.sl ti.elem te.ks) (List.drop n.toNat (els xs))⟩ = st3 at h3 m3
  generalize hgg3 : gg2.setC r j vt FR = gg3 at h3 m3
  have hn3 : NoMay st3 := fun t tv ht => hn2 t tv (by rw [← m3.tm]; exact ht)
  have hcell3 : st3.cell r j = some ⟨s' + 1, m + 1, .own (.sl ti.elem te.ks) (List.drop n.toNat (els xs))⟩ := by
    rw [← hst3, setCell_cell, if_pos ⟨rfl, rfl⟩, hcell]
    rfl
  have hcv3 : gg3.cv r j = vt := by rw [← hgg3]; simp [Gh.setC]
  have hfp3 : ∀ r' j' b, gg3.fp r' j' b → (r' = r ∧ j' = j ∧ FR b) ∨ (¬ (r' = r ∧ j' = j) ∧ gg2.fp r' j' b) := fun r' j' b hb => by
    rw [← hgg3] at hb
    simp only [Gh.setC] at hb
    split at hb
    · rename_i e; exact .inl ⟨e.1, e.2, hb⟩
    · rename_i e; exact .inr ⟨e, hb⟩
  have hfp32 : ∀ r' j' b, gg3.fp r' j' b → gg2.fp r' j' b := fun r' j' b hb => by
    rcases hfp3 r' j' b hb with ⟨rfl, rfl, hb⟩ | ⟨_, hb⟩
    · exact wfr b hb
    · exact hb
  have hFree1 : Free cx Z1 gg3 st3 w1 F1 := k4.mono hfp32 m3.be m3.box
  rw [wpOps_cons]
  refine wpOp_wop (i := 1) rfl g2 ?_
  have run2 : (execOp a1.eval o2).run P w1 = .ok (.value (a1.eval (.tmp tO))) w1 := by simp [execOp, p2]
  unfold Oper.wp
  rw [run2, Oper.upon_value, e2, vO]
  have h4 := h3.bindV (d := d2) (tv := .v .dead) (v := gg2.cv r j) (hsz1.dst b2) trivial
  have hsz2 := hsz1.put (some d2) (gg2.cv r j)
  have hv2 : (a1.put (some d2) (gg2.cv r j)).eval (.tmp d2) = gg2.cv r j := eval_put_self (hsz1.dst b2).1
  have ev2 : ∀ t, t ≠ d2 → (a1.put (some d2) (gg2.cv r j)).eval (.tmp t) = a1.eval (.tmp t) := fun t ht => Act.eval_put fun d e e' => by cases e; cases e'; exact ht rfl
  generalize ha2 : a1.put (some d2) (gg2.cv r j) = a2 at h4 hsz2 hv2 ev2 ⊢
  rw [wpOps_cons]
  refine wpOp_wop (i := 2) rfl g3 ?_
  have vK : a2.eval (.tmp tK) = .int k n := by
    rw [ev2 tK nK2]
    exact (int?_rel (get_rel k1 hn2.cons.cons hK2) (show TV.int? (.v (.d (.int k) n)) = some (k, n) from rfl)).1
  have hKr : inR k n := (int?_rel (get_rel k1 hn2.cons.cons hK2) (show TV.int? (.v (.d (.int k) n)) = some (k, n) from rfl)).2
  have run3 : (execOp a2.eval o3).run P w1 = .ok (.value (.int k n)) w1 := by simp [execOp, p3, vK]
  unfold Oper.wp
  rw [run3, Oper.upon_value, e3]
  have h5 := h4.bindV (d := d3) (tv := .v (.d (.int k) n)) (v := .int k n) (hsz2.dst b3) ⟨rfl, hKr⟩
  have hsz3 := hsz2.put (some d3) (.int k n)
  have hv3 : (a2.put (some d3) (.int k n)).eval (.tmp d3) = .int k n := eval_put_self (hsz2.dst b3).1
  have ev3 : ∀ t, t ≠ d3 → (a2.put (some d3) (.int k n)).eval (.tmp t) = a2.eval (.tmp t) := fun t ht => Act.eval_put fun d e e' => by cases e; cases e'; exact ht rfl
  generalize ha3 : a2.put (some d3) (.int k n) = a3 at h5 hsz3 hv3 ev3 ⊢
  have hn5 : NoMay ((st3.bindT d2 (.v .dead, none)).bindT d3 (.v (.d (.int k) n), none)) := hn3.bind.bind
  rw [wpOps_cons]
  refine wpOp_wop (i := 3) rfl g4 ?_
  have hlh : loHi ((st3.bindT d2 (.v .dead, none)).bindT d3 (.v (.d (.int k) n), none)) none (some (.tmp d3)) (els xs).length = some ((0 : Int), n) := by
    have : ((st3.bindT d2 (.v .dead, none)).bindT d3 (.v (.d (.int k) n), none)).get (.tmp d3) = some (.v (.d (.int k) n)) := by
      show St.tv _ d3 = _
      rw [tv_noMay hn5, bindT_tm, if_pos rfl]
    simp only [loHi, this, TV.int?, AV.int?]
    rfl
  have hslice : (execOp a3.eval o4).run P w1 = .ok (.value (.slice aa n.toNat cap)) w1 := by
    have hs := slice_run huS hsS (aa := aa) (bounds_run (P := P) h5 hn5.cons.cons true hlh hcut wcap)
    have hv : a3.eval (.tmp d2) = .slice aa (els xs).length cap := by rw [ev3 d2 n23, hv2, v0]
    have haa : (if cap = (0 : Int).toNat then aa else aa.map (·.add ((0 : Int).toNat * tn.ks.length))) = aa := by
      cases aa with
      | none => simp
      | some ad =>
        obtain ⟨b, o, _, _, _, rfl, _⟩ := v5 ad rfl
        simp [add_mk]
    rw [haa] at hs
    simp only [Option.map_none, Int.toNat_zero, Nat.sub_zero] at hs
    simp only [execOp, p4, hv, Option.map_none, Sem.run_bind, hs, Result.andThen_ok]
    rfl
  unfold Oper.wp
  rw [hslice, Oper.upon_value, e4]
  have h6 := h5.bindV (d := d4) (tv := .v .dead) (v := .slice aa n.toNat cap) (hsz3.dst b4) trivial
  have hsz4 := hsz3.put (some d4) (.slice aa n.toNat cap)
  have hv4 : (a3.put (some d4) (.slice aa n.toNat cap)).eval (.tmp d4) = .slice aa n.toNat cap := eval_put_self (hsz3.dst b4).1
  have ev4 : ∀ t, t ≠ d4 → (a3.put (some d4) (.slice aa n.toNat cap)).eval (.tmp t) = a3.eval (.tmp t) := fun t ht => Act.eval_put fun d e e' => by cases e; cases e'; exact ht rfl
  generalize ha4 : a3.put (some d4) (.slice aa n.toNat cap) = a4 at h6 hsz4 hv4 ev4 ⊢
  have hn6 : NoMay (((st3.bindT d2 (.v .dead, none)).bindT d3 (.v (.d (.int k) n), none)).bindT d4 (.v .dead, none)) := hn5.bind
  have vO4 : a4.eval (.tmp tO) = gg2.cv r j := by rw [ev4 tO nO4, ev3 tO nO3, ev2 tO nO2, vO]
  have vX4 : a4.eval (.tmp d1) = a1.eval (.tmp d1) := by rw [ev4 d1 n14, ev3 d1 n13, ev2 d1 n12]
  have h7 := h6.bindV (d := tO) (tv := .v (.pre r j (s' + 1) n.toNat)) (v := gg2.cv r j) (hsz4.dst bO) (by
    refine ⟨_, hcell3, Nat.le_refl _, fun _ => ⟨_, _, _, rfl, aa, (els xs).length, cap, v0, by omega, wcap, ?_, ?_⟩⟩
    · show (els xs).length = n.toNat + (List.drop n.toNat (els xs)).length
      rw [hld]; omega
    · show gg3.cv r j = _
      rw [hcv3, ← htail])
  rw [put_same vO4 (hsz4.dst bO).1] at h7
  rw [wpOps_cons]
  refine wpOp_wop (i := 4) rfl g5 ?_
  have hbytes : ((els y0).length + (List.take n.toNat (els xs)).length) * te.bytes ≤ big := by rw [hlt]; exact Nat.le_of_ble_eq_true hble
  obtain ⟨v', w2, F', r1, r2, r3, r4, r5, r6, r7, r8, r9⟩ := append_in (P := P) (ty := o5.type) (ats := c.argTypes) hu hTe hu2 hd2 (by rw [← Array.getElem?_toList, hts]; rfl) (by rw [← Array.getElem?_toList, hts]; rfl) hby k3 w0 wl wc
    (fun q hq => by
      rcases hq with hq | hq
      · exact k4.lt q hq
      · exact (k1.fp r j q (wfh q hq).1).1) (fun q hq hF => k4.fp q hF r j (wfh q hq).1) hbytes
  have hargs' : c.args = #[.tmp d1, .tmp d4] := by rw [← Array.toArray_toList (xs := c.args), hargs]
  have run5 : (execOp a4.eval o5).run P w1 = .ok (.value v') w2 := by
    simp only [execOp, p5, resolve, hcal, hargs', Sem.run_bind, Sem.run_pure, Result.andThen_ok, invoke, builtin, List.map_toArray, List.map_cons, List.map_nil, vX4, hv4, r1]
  unfold Oper.wp
  rw [run5, Oper.upon_value, e5]
  have h8 := h7.wr (w' := w2) (F := F1) ⟨hFree1.lt, hFree1.own, hFree1.z, hFree1.fp, hFree1.box⟩ r2 r3 r4 r5 r6
  have hFb : ∀ b, F' b → b < w2.heap.size ∧ (cx.F0 b ∨ cx.w0.heap.size ≤ b) ∧ ¬ Z1 b ∧ (∀ r j, ¬ gg3.fp r j b) ∧ (∀ r' R', look st3.rt r' = some R' → R'.box = true → gg3.be r' ≠ b) := fun b hb => by
    obtain ⟨l1, l2⟩ := r7 b hb
    rcases l2 with l2 | l2 | l2
    · exact ⟨l1, hFree1.own b l2, hFree1.z b l2, hFree1.fp b l2, hFree1.box b l2⟩
    · obtain ⟨x1, x2⟩ := wfh b l2
      obtain ⟨z1, z2, z3, _⟩ := k1.fp r j b x1
      refine ⟨l1, z2, z3, fun r' j' hh => ?_, fun r' R' hR' hb' he => (h3.box r' R' hR' hb').2.2.1 r' j ?_⟩
      · rcases hfp3 r' j' b hh with ⟨_, _, hh⟩ | ⟨hne, hh⟩
        · exact x2 hh
        · exact hne (k1.disj _ _ _ _ _ hh x1)
      · exfalso
        obtain ⟨R2, hR2, hb2⟩ := m3.box r' R' hR'
        refine (k1.box r' R2 hR2 (by rw [← hb2]; exact hb')).2.2.1 r j ?_
        rw [← m3.be, he]
        exact x1
    · refine ⟨l1, .inr (Nat.le_trans k1.size l2), fun hz => by have := (k1.zone _ hz).1; omega, fun r' j' hh => by have := (h3.fp r' j' _ hh).1; omega, fun r' R' hR' hb' he => ?_⟩
      obtain ⟨_, _, _, _, cs1, el1, fr1, b5, _⟩ := h3.box r' R' hR' hb'
      rw [he, Array.getElem?_eq_none l2] at b5
      simp at b5
  have hfree5' : st3.free d5 = true := by
    have : (look st3.rt d5).isSome = (look st2.rt d5).isSome := by
      rw [← hst3, setCell_rt]
      split
      · rename_i e; subst e; cases look st2.rt r <;> rfl
      · rfl
    unfold St.free at hfree5 ⊢
    revert this hfree5
    cases look st3.rt d5 <;> cases look st2.rt d5 <;> simp
  obtain ⟨gg9, h9⟩ := h8.bindOwn (d := d5) (hsz4.dst b5) hfree5' hFb r9
  have hsz5 := hsz4.put (some d5) v'
  have hn9 : NoMay ((((((st3.bindT d2 (.v .dead, none)).bindT d3 (.v (.d (.int k) n), none)).bindT d4 (.v .dead, none)).bindT tO (.v (.pre r j (s' + 1) n.toNat), none))).bindT d5 (.v (.ref d5 0 0), some ⟨false, [⟨0, 0, .own (.sl ti.elem te.ks) (cat te.ks (els y0) (List.take n.toNat (els xs)))⟩]⟩)) := hn6.bind.bind
  rw [wpOps_cons]
  refine wpOp_wop (i := 5) rfl g6 ?_
  obtain ⟨hn10, hw10⟩ := w_assign h9 hn9 hsz5 e6 (hsz5.dst b6) (.inr p6) (tv := .v (.ref d5 0 0)) (by
    show St.tv _ d5 = _
    rw [tv_noMay hn9, bindT_tm, if_pos rfl])
  refine hw10 _ _ fun Z' g' a' w' hr' hsz' => ?_
  exact ⟨hn10, hsz', Z', g', hr'⟩
end
end Go.Av
namespace Go.Av
open Go.RowKit (Below)
def preB (n : Int) (m : Nat) : Bool := leI 0 n && Nat.beq n.toNat m
def joinF (E : En) (tS tA tA2 tN tO tK d1 d2 d3 d4 d5 : Nat) (st : St) : Tr St :=
  Tr.ofO (E.ti tA) fun ti => Tr.ofO (E.sl tA) fun te => Tr.ofO (E.sl tS) fun tn =>
  (match st.tv tN, st.tv tO, st.tv tK with
  | some (.v avN), some (.v (.pre r j s m0)), some (.v (.d (.int k) n)) => (match st.cell r j with
    | some ⟨s', m, .own (.sl e ks) xs⟩ =>
      bif (Nat.beq s' s && (Nat.beq ks.length tn.ks.length && (E.str tA2 || (E.sl tA2).isSome))) && ((E.dB d1 && (E.dB d2 && (E.dB d3 && (E.dB d4 && (E.dB d5 && E.dB tO))))) && ((ne2 tO d1 && (ne2 tK d1 && ne2 tK d2)) && ((ne2 d1 d2 && (ne2 d1 d3 && ne2 d1 d4)) && ne2 d2 d3)))
      then .need (preB n m0) (((((((st.bindT d1 (.v avN, none)).bindT d2 (.v .dead, none)).bindT d3 (.v (.d (.int k) n), none)).bindT d4 (.v (.ref r j s), none)).append d5 ti.elem te (.v avN) (.v (.ref r j s)))).bind fun st' => .ret (st'.bindT tO (.v (.ref d5 0 0), none)))
      else .fail
    | _ => .fail)
  | _, _, _ => .fail)
section
variable {P : Program} {E : En} {cx : Cx} {Z : Nat → Prop} {g : Gh} {st v : St} {a : Act} {w : World}
theorem join_sem (hT : TTok P E) (hga : GAok P E) {rid tS tA tA2 tN tO tK d1 d2 d3 d4 d5 : Nat} {o1 o2 o3 o4 o5 o6 : Oper} {c : Call} {tys : List Nat}
    (e1 : o1.dst = some d1) (p1 : o1.op = .move (.tmp tN)) (g1 : o1.guard = none) (e2 : o2.dst = some d2) (p2 : o2.op = .move (.tmp tO)) (g2 : o2.guard = none) (e3 : o3.dst = some d3) (p3 : o3.op = .move (.tmp tK)) (g3 : o3.guard = none)
    (e4 : o4.dst = some d4) (p4 : o4.op = .slice tS (.tmp d2) (some (.tmp d3)) none none) (g4 : o4.guard = none) (e5 : o5.dst = some d5) (p5 : o5.op = .call c) (g5 : o5.guard = none) (hcal : c.callee = .builtin .append) (hargs : c.args.toList = [.tmp d1, .tmp d4]) (hts : c.argTypes.toList = tA :: tA2 :: tys)
    (e6 : o6.dst = some tO) (p6 : o6.op = .assign (.tmp d5)) (g6 : o6.guard = none) :
    RegSem P E (.region rid #[o1, o2, o3, o4, o5, o6] false) (joinF E tS tA tA2 tN tO tK d1 d2 d3 d4 d5) := by
  intro cx a w st st' h hrun
  unfold joinF at hrun
  obtain ⟨ti, hti, hrun⟩ := Tr.run_ofO hrun
  obtain ⟨te, hte, hrun⟩ := Tr.run_ofO hrun
  obtain ⟨tn, htn, hrun⟩ := Tr.run_ofO hrun
  split at hrun
  rotate_left
  · simp [Tr.run] at hrun
  rename_i avN r j s m0 k n hN hO hK
  split at hrun
  rotate_left
  · simp [Tr.run] at hrun
  rename_i s' m e ks xs hcell
  generalize hc : ((Nat.beq s' s && (Nat.beq ks.length tn.ks.length && (E.str tA2 || (E.sl tA2).isSome))) && ((E.dB d1 && (E.dB d2 && (E.dB d3 && (E.dB d4 && (E.dB d5 && E.dB tO))))) && ((ne2 tO d1 && (ne2 tK d1 && ne2 tK d2)) && ((ne2 d1 d2 && (ne2 d1 d3 && ne2 d1 d4)) && ne2 d2 d3)))) = cond at hrun
  cases cond with
  | false => simp [Tr.run] at hrun
  | true =>
  simp only [cond_true] at hrun
  obtain ⟨hpre, hrun⟩ := Tr.run_need hrun
  rw [Tr.run_bind] at hrun
  generalize hst4 : (((st.bindT d1 (.v avN, none)).bindT d2 (.v .dead, none)).bindT d3 (.v (.d (.int k) n), none)).bindT d4 (.v (.ref r j s), none) = st4 at hrun
  cases hap : (st4.append d5 ti.elem te (.v avN) (.v (.ref r j s))).run with
  | none => rw [hap] at hrun; simp at hrun
  | some st5 =>
  rw [hap] at hrun
  simp only [Option.bind_some, Tr.run, Option.some.injEq] at hrun
  subst hrun
  simp only [Bool.and_eq_true] at hc
  obtain ⟨⟨cs1, cs2, hstr⟩, ⟨b1, b2, b3, b4, b5, bO⟩, ⟨nO1, nK1, nK2⟩, ⟨n12, n13, n14⟩, n23⟩ := hc
  have cs1 := beq_eq cs1
  subst cs1
  have cs2 := beq_eq cs2
  have nO1 := ne2_ne nO1; have nK1 := ne2_ne nK1; have nK2 := ne2_ne nK2
  have n12 := ne2_ne n12; have n13 := ne2_ne n13; have n14 := ne2_ne n14; have n23 := ne2_ne n23
  unfold preB leI at hpre
  simp only [Bool.and_eq_true, decide_eq_true_eq] at hpre
  obtain ⟨hn0, hm0⟩ := hpre
  have hm0 := beq_eq hm0
  obtain ⟨_, _, _, _, _, u4, huS⟩ := sl_desc hT htn
  have hsS := fun w => run_sizeOf' (hT _ tn u4) (P := P) w
  obtain ⟨hn, hsz, Z, g, hr⟩ := h
  refine wp_region ?_
  show wpOps P #[o1, o2, o3, o4, o5, o6] _ [0, 1, 2, 3, 4, 5] a w
  rw [wpOps_cons]
  refine wpOp_wop (i := 0) rfl g1 ?_
  have vN : a.eval (.tmp tN) = a.eval (.tmp tN) := rfl
  have run1 : (execOp a.eval o1).run P w = .ok (.value (a.eval (.tmp tN))) w := by simp [execOp, p1]
  unfold Oper.wp
  rw [run1, Oper.upon_value, e1]
  have h1 := hr.bindV (d := d1) (tv := .v avN) (v := a.eval (.tmp tN)) (hsz.dst b1) (get_rel hr hn.cons.cons hN)
  have hsz1 := hsz.put (some d1) (a.eval (.tmp tN))
  have ev1 : ∀ t, t ≠ d1 → (a.put (some d1) (a.eval (.tmp tN))).eval (.tmp t) = a.eval (.tmp t) := fun t ht => Act.eval_put fun d e e' => by cases e; cases e'; exact ht rfl
  generalize ha1 : a.put (some d1) (a.eval (.tmp tN)) = a1 at h1 hsz1 ev1 ⊢
  rw [wpOps_cons]
  refine wpOp_wop (i := 1) rfl g2 ?_
  have run2 : (execOp a1.eval o2).run P w = .ok (.value (a.eval (.tmp tO))) w := by simp [execOp, p2, ev1 tO nO1]
  unfold Oper.wp
  rw [run2, Oper.upon_value, e2]
  have h2 := h1.bindV (d := d2) (tv := .v .dead) (v := a.eval (.tmp tO)) (hsz1.dst b2) trivial
  have hsz2 := hsz1.put (some d2) (a.eval (.tmp tO))
  have hv2 : (a1.put (some d2) (a.eval (.tmp tO))).eval (.tmp d2) = a.eval (.tmp tO) := eval_put_self (hsz1.dst b2).1
  have ev2 : ∀ t, t ≠ d2 → (a1.put (some d2) (a.eval (.tmp tO))).eval (.tmp t) = a1.eval (.tmp t) := fun t ht => Act.eval_put fun d e e' => by cases e; cases e'; exact ht rfl
  generalize ha2 : a1.put (some d2) (a.eval (.tmp tO)) = a2 at h2 hsz2 hv2 ev2 ⊢
  rw [wpOps_cons]
  refine wpOp_wop (i := 2) rfl g3 ?_
  have vK0 := int?_rel (get_rel hr hn.cons.cons (show st.get (.tmp tK) = _ from hK)) (show TV.int? (.v (.d (.int k) n)) = some (k, n) from rfl)
  have run3 : (execOp a2.eval o3).run P w = .ok (.value (.int k n)) w := by simp [execOp, p3, ev2 tK nK2, ev1 tK nK1, vK0.1]
  unfold Oper.wp
  rw [run3, Oper.upon_value, e3]
  have h3 := h2.bindV (d := d3) (tv := .v (.d (.int k) n)) (v := .int k n) (hsz2.dst b3) ⟨rfl, vK0.2⟩
  have hsz3 := hsz2.put (some d3) (.int k n)
  have ev3 : ∀ t, t ≠ d3 → (a2.put (some d3) (.int k n)).eval (.tmp t) = a2.eval (.tmp t) := fun t ht => Act.eval_put fun d e e' => by cases e; cases e'; exact ht rfl
  generalize ha3 : a2.put (some d3) (.int k n) = a3 at h3 hsz3 ev3 ⊢
  have hn3 : NoMay (((st.bindT d1 (.v avN, none)).bindT d2 (.v .dead, none)).bindT d3 (.v (.d (.int k) n), none)) := hn.bind.bind.bind
  rw [wpOps_cons]
  refine wpOp_wop (i := 3) rfl g4 ?_
  obtain ⟨cc, y1, y2, y3⟩ := get_rel hr hn.cons.cons (show st.get (.tmp tO) = _ from hO)
  rw [hcell] at y1
  cases y1
  obtain ⟨e', ks', xs', y4, aa, l, cap, y5, y6, y7, y8, y9⟩ := y3 rfl
  simp only [RV.own.injEq, K.sl.injEq] at y4
  obtain ⟨⟨rfl, rfl⟩, y4⟩ := y4
  cases y4
  have hlh : loHi (((st.bindT d1 (.v avN, none)).bindT d2 (.v .dead, none)).bindT d3 (.v (.d (.int k) n), none)) (some (.tmp d3)) none l = some (n, (l : Int)) := by
    have : (((st.bindT d1 (.v avN, none)).bindT d2 (.v .dead, none)).bindT d3 (.v (.d (.int k) n), none)).get (.tmp d3) = some (.v (.d (.int k) n)) := by
      show St.tv _ d3 = _
      rw [tv_noMay hn3, bindT_tm, if_pos rfl]
    simp only [loHi, this, TV.int?, AV.int?]
    rfl
  have hcut : cutOk n (l : Int) l = true := by
    simp only [cutOk, leI, Bool.and_eq_true, decide_eq_true_eq]
    omega
  have hslice : (execOp a3.eval o4).run P w = .ok (.value (g.cv r j)) w := by
    have hs := slice_run huS hsS (aa := aa) (bounds_run (P := P) h3 hn3.cons.cons true hlh hcut y7)
    have hv : a3.eval (.tmp d2) = .slice aa l cap := by rw [ev3 d2 n23, hv2, y5]
    rw [hm0, Int.toNat_natCast, ← cs2, ← y9] at hs
    simp only [Option.map_none] at hs
    simp only [execOp, p4, hv, Option.map_none, Sem.run_bind, hs, Result.andThen_ok]
    rfl
  unfold Oper.wp
  rw [hslice, Oper.upon_value, e4]
  have h4 := h3.bindV (d := d4) (tv := .v (.ref r j s')) (v := g.cv r j) (hsz3.dst b4) ⟨_, hcell, Nat.le_refl _, fun _ => rfl⟩
  have hsz4 := hsz3.put (some d4) (g.cv r j)
  have hn4 : NoMay st4 := by rw [← hst4]; exact hn3.bind
  rw [hst4] at h4
  have hx4 : st4.get (.tmp d1) = some (.v avN) := by
    show St.tv _ d1 = _
    rw [tv_noMay hn4, ← hst4, bindT_tm, if_neg (fun e => n14 e.symm), bindT_tm, if_neg (fun e => n13 e.symm), bindT_tm, if_neg (fun e => n12 e.symm), bindT_tm, if_pos rfl]
  have hy4 : st4.get (.tmp d4) = some (.v (.ref r j s')) := by
    show St.tv _ d4 = _
    rw [tv_noMay hn4, ← hst4, bindT_tm, if_pos rfl]
  rw [wpOps_cons]
  refine wpOp_wop (i := 4) rfl g5 ?_
  obtain ⟨hn5, hw5⟩ := w_append hT h4 hn4 hsz4 e5 (hsz4.dst b5) p5 hcal hargs hts hti hte hx4 hy4 (by
    rw [Bool.or_eq_true] at hstr
    rcases hstr with h2 | h2
    · exact .inl h2
    · exact .inr (Option.isSome_iff_exists.1 h2)) hap
  refine hw5 _ _ fun Z5 gg5 a5 w5 hr5 hsz5 => ?_
  rw [wpOps_cons]
  refine wpOp_wop (i := 5) rfl g6 ?_
  have h55 : st5.get (.tmp d5) = some (.v (.ref d5 0 0)) := by
    show St.tv _ d5 = _
    rw [tv_noMay hn5]
    unfold St.append at hap
    obtain ⟨_, _, hap⟩ := Tr.run_ofO hap
    obtain ⟨_, _, hap⟩ := Tr.run_ofO hap
    obtain ⟨q, _, hap⟩ := Tr.run_ofO hap
    cases hcond : q.1.free d5 && Nat.blt 0 te.bytes with
    | false => rw [hcond] at hap; simp [Tr.run] at hap
    | true =>
      rw [hcond] at hap
      simp only [cond_true] at hap
      obtain ⟨_, hap⟩ := Tr.run_need hap
      simp only [Tr.run, Option.some.injEq] at hap
      rw [← hap, bindT_tm, if_pos rfl]
  obtain ⟨hn6, hw6⟩ := w_assign hr5 hn5 hsz5 e6 (hsz5.dst bO) (.inr p6) h55
  exact hw6 _ _ fun Z' g' a' w' hr' hsz' => ⟨hn6, hsz', Z', g', hr'⟩
theorem split_of (hT : TTok P E) (hga : GAok P E) {cd : Code} {rid tS tA tA2 tO tK d1 d2 d3 d4 d5 d6 : Nat} {o1 o2 o3 o4 o5 o6 : Oper} {c : Call} {tys : List Nat} (hcd : cd = .region rid #[o1, o2, o3, o4, o5, o6] false)
    (e1 : o1.dst = some d1) (g1 : o1.guard = none) (e2 : o2.dst = some d2) (p2 : o2.op = .move (.tmp tO)) (g2 : o2.guard = none) (e3 : o3.dst = some d3) (p3 : o3.op = .move (.tmp tK)) (g3 : o3.guard = none)
    (e4 : o4.dst = some d4) (p4 : o4.op = .slice tS (.tmp d2) none (some (.tmp d3)) none) (g4 : o4.guard = none) (e5 : o5.dst = some d5) (p5 : o5.op = .call c) (g5 : o5.guard = none) (hcal : c.callee = .builtin .append) (hargs : c.args.toList = [.tmp d1, .tmp d4]) (hts : c.argTypes.toList = tA :: tA2 :: tys)
    (e6 : o6.dst = some d6) (p6 : o6.op = .assign (.tmp d5)) (g6 : o6.guard = none) : RegSem P E cd (splitF E o1.op tS tA tA2 tO tK d1 d2 d3 d4 d5 d6) := by
  rw [hcd]
  exact split_sem hT hga e1 g1 e2 p2 g2 e3 p3 g3 e4 p4 g4 e5 p5 g5 hcal hargs hts e6 p6 g6
theorem join_of (hT : TTok P E) (hga : GAok P E) {cd : Code} {rid tS tA tA2 tN tO tK d1 d2 d3 d4 d5 : Nat} {o1 o2 o3 o4 o5 o6 : Oper} {c : Call} {tys : List Nat} (hcd : cd = .region rid #[o1, o2, o3, o4, o5, o6] false)
    (e1 : o1.dst = some d1) (p1 : o1.op = .move (.tmp tN)) (g1 : o1.guard = none) (e2 : o2.dst = some d2) (p2 : o2.op = .move (.tmp tO)) (g2 : o2.guard = none) (e3 : o3.dst = some d3) (p3 : o3.op = .move (.tmp tK)) (g3 : o3.guard = none)
    (e4 : o4.dst = some d4) (p4 : o4.op = .slice tS (.tmp d2) (some (.tmp d3)) none none) (g4 : o4.guard = none) (e5 : o5.dst = some d5) (p5 : o5.op = .call c) (g5 : o5.guard = none) (hcal : c.callee = .builtin .append) (hargs : c.args.toList = [.tmp d1, .tmp d4]) (hts : c.argTypes.toList = tA :: tA2 :: tys)
    (e6 : o6.dst = some tO) (p6 : o6.op = .assign (.tmp d5)) (g6 : o6.guard = none) : RegSem P E cd (joinF E tS tA tA2 tN tO tK d1 d2 d3 d4 d5) := by
  rw [hcd]
  exact join_sem hT hga e1 p1 g1 e2 p2 g2 e3 p3 g3 e4 p4 g4 e5 p5 g5 hcal hargs hts e6 p6 g6
def drI {α : Type} (xs : List α) (n : Int) : List α := List.drop n.toNat xs
def fitN {α : Type} (bytes : Nat) (xs _ys : List α) (n : Int) : Bool := Nat.ble ((xs.length + n.toNat) * bytes) big
def preI (n m : Int) : Bool := preB n m.toNat
end
end Go.Av
namespace Go.Av
section
variable {α A X Y : Type}
def goL (f : Nat → α → A → Sum A Y) (z : A → Y) : Nat → List α → A → Y
  | _, [], a => z a
  | i, x :: r, a => match f i x a with
    | .inl a' => goL f z (i + 1) r a'
    | .inr y => y
theorem loop_list_from {step : X → Option (Sum X Y)} (xs : List α) (S : Nat → A → X) (f : Nat → α → A → Sum A Y) (z : A → Y) (I : Nat → A → Prop)
    (hs : ∀ i x a, xs[i]? = some x → I i a → step (S i a) = some (match f i x a with | .inl a' => .inl (S (i + 1) a') | .inr y => .inr y))
    (hI : ∀ i x a a', xs[i]? = some x → I i a → f i x a = .inl a' → I (i + 1) a')
    (he : ∀ a, I xs.length a → step (S xs.length a) = some (.inr (z a))) :
    ∀ (ys : List α) (i : Nat) (a : A), i + ys.length = xs.length → ys = xs.drop i → I i a → loopF step (S i a) = some (goL f z i ys a)
  | [], i, a, hl, hy, h => by
    have : i = xs.length := by simpa using hl
    subst this
    exact loopF_end step (he a h)
  | x :: r, i, a, hl, hy, h => by
    have hx : xs[i]? = some x := by
      have := congrArg (·[0]?) hy
      simp only [List.getElem?_cons_zero, List.getElem?_drop, Nat.add_zero] at this
      exact this.symm
    have hr : r = xs.drop (i + 1) := by
      have := congrArg List.tail hy
      simpa using this
    have hst := hs i x a hx h
    cases hf : f i x a with
    | inl a' =>
      rw [hf] at hst
      refine loopF_step step hst ?_
      rw [goL, hf]
      exact loop_list_from xs S f z I hs hI he r (i + 1) a' (by simp only [List.length_cons] at hl; omega) hr (hI i x a a' hx h hf)
    | inr y =>
      rw [hf] at hst
      rw [goL, hf]
      exact loopF_end step hst
theorem loop_inv {step : X → Option (Sum X Y)} (xs : List α) (S : Nat → A → X) (f : Nat → α → A → Sum A Y) (z : A → Y) (I : Nat → A → Prop) {a0 : A} (h0 : I 0 a0)
    (hs : ∀ i x a, xs[i]? = some x → I i a → step (S i a) = some (match f i x a with | .inl a' => .inl (S (i + 1) a') | .inr y => .inr y))
    (hI : ∀ i x a a', xs[i]? = some x → I i a → f i x a = .inl a' → I (i + 1) a')
    (he : ∀ a, I xs.length a → step (S xs.length a) = some (.inr (z a))) : loopF step (S 0 a0) = some (goL f z 0 xs a0) :=
  loop_list_from xs S f z I hs hI he xs 0 a0 (by simp) (by simp) h0
theorem loop_list {step : X → Option (Sum X Y)} (xs : List α) (S : Nat → A → X) (f : Nat → α → A → Sum A Y) (z : A → Y) {a0 : A}
    (hs : ∀ i x a, xs[i]? = some x → step (S i a) = some (match f i x a with | .inl a' => .inl (S (i + 1) a') | .inr y => .inr y))
    (he : ∀ a, step (S xs.length a) = some (.inr (z a))) : loopF step (S 0 a0) = some (goL f z 0 xs a0) :=
  loop_inv xs S f z (fun _ _ => True) trivial (fun i x a h _ => hs i x a h) (fun _ _ _ _ _ _ _ => trivial) fun a _ => he a
theorem loop_post {step : X → Option (Sum X Y)} (xs : List α) (S : Nat → A → X) (z : A → Y) (I : Nat → A → Prop)
    (hs : ∀ i x a, xs[i]? = some x → I i a → ∃ a', step (S i a) = some (.inl (S (i + 1) a')) ∧ I (i + 1) a')
    (he : ∀ a, I xs.length a → step (S xs.length a) = some (.inr (z a))) : ∀ (n k : Nat) (a : A), k + n = xs.length → I k a → ∃ a', I xs.length a' ∧ loopF step (S k a) = some (z a')
  | 0, k, a, hk, h => by
    rw [Nat.add_zero] at hk
    subst hk
    exact ⟨a, h, loopF_end step (he a h)⟩
  | n + 1, k, a, hk, h => by
    have hx : xs[k]? = some (xs[k]'(by omega)) := List.getElem?_eq_getElem (by omega)
    obtain ⟨a1, h1, h2⟩ := hs k _ a hx h
    obtain ⟨a', h3, h4⟩ := loop_post xs S z I hs he n (k + 1) a1 (by omega) h2
    exact ⟨a', h3, loopF_step step h1 h4⟩
theorem goL_all (p : α → Bool) (y : Y) (z : Unit → Y) : ∀ (xs : List α) (i : Nat), goL (fun _ x _ => bif p x then .inl () else .inr y) z i xs () = bif xs.all p then z () else y
  | [], _ => rfl
  | x :: r, i => by
    rw [goL, List.all_cons]
    cases hp : p x with
    | true => simp only [cond_true, Bool.true_and]; exact goL_all p y z r (i + 1)
    | false => rfl
def allI (p : Nat → α → Bool) : Nat → List α → Bool
  | _, [] => true
  | i, x :: r => p i x && allI p (i + 1) r
theorem goL_allI (p : Nat → α → Bool) (y : Y) (z : Unit → Y) : ∀ (xs : List α) (i : Nat), goL (fun i x _ => bif p i x then .inl () else .inr y) z i xs () = bif allI p i xs then z () else y
  | [], _ => rfl
  | x :: r, i => by
    rw [goL, allI]
    cases hp : p i x with
    | true => simp only [cond_true, Bool.true_and]; exact goL_allI p y z r (i + 1)
    | false => rfl
theorem allI_get (p : Nat → α → Bool) : ∀ {xs : List α} {k : Nat}, allI p k xs = true → ∀ {i : Nat} {x : α}, xs[i]? = some x → p (k + i) x = true
  | [], k, _, i, x, hx => by simp at hx
  | y :: r, k, h, i, x, hx => by
    simp only [allI, Bool.and_eq_true] at h
    cases i with
    | zero => simp only [List.getElem?_cons_zero, Option.some.injEq] at hx; subst hx; exact h.1
    | succ i =>
      have := allI_get p h.2 (i := i) (x := x) (by simpa using hx)
      rwa [show k + 1 + i = k + (i + 1) by omega] at this
theorem allI_congr {p q : Nat → α → Bool} : ∀ {xs : List α} {k : Nat}, (∀ i x, xs[i]? = some x → p (k + i) x = q (k + i) x) → allI p k xs = allI q k xs
  | [], _, _ => rfl
  | y :: r, k, h => by
    have ih : allI p (k + 1) r = allI q (k + 1) r := allI_congr fun i x hx => by
      have := h (i + 1) x (by simpa using hx)
      rwa [show k + (i + 1) = k + 1 + i by omega] at this
    have h0 := h 0 y rfl
    rw [Nat.add_zero] at h0
    rw [allI, allI, ih, h0]
theorem goL_fold (f : α → A → A) (z : A → Y) : ∀ (xs : List α) (i : Nat) (a : A), goL (fun _ x a => .inl (f x a)) z i xs a = z (xs.foldl (fun a x => f x a) a)
  | [], _, _ => rfl
  | x :: r, i, a => by rw [goL, List.foldl_cons]; exact goL_fold f z r (i + 1) _
theorem goL_congr {f f' : Nat → α → A → Sum A Y} {z : A → Y} : ∀ (xs : List α) (i : Nat) (a : A), (∀ j x a, xs[j]? = some x → f (i + j) x a = f' (i + j) x a) → goL f z i xs a = goL f' z i xs a
  | [], _, _, _ => rfl
  | x :: r, i, a, h => by
    have h0 := h 0 x a rfl
    rw [Nat.add_zero] at h0
    rw [goL, goL, h0]
    cases f' i x a with
    | inl a' => exact goL_congr r (i + 1) a' fun j y b hy => by have := h (j + 1) y b hy; rw [show i + (j + 1) = i + 1 + j by omega] at this; exact this
    | inr y => rfl
end
def Sm {α : Type} (xs : List α) : Prop := xs.length ≤ 1048576
section
variable {α : Type}
theorem addW1 {i : Nat} (h : i ≤ big) : addW .i64 (i : Int) 1 = ((i + 1 : Nat) : Int) := by
  unfold addW
  rw [IntWalk.i64_in _ (by have : big = 140737488355328 := rfl; omega)]
  omega
theorem addW_in {a b : Int} (h1 : -4611686018427387904 ≤ a + b) (h2 : a + b ≤ 4611686018427387904) : addW .i64 a b = a + b := by
  unfold addW; rw [IntWalk.i64_in _ (by omega)]
theorem subW_in {a b : Int} (h1 : -4611686018427387904 ≤ a - b) (h2 : a - b ≤ 4611686018427387904) : subW .i64 a b = a - b := by
  unfold subW; rw [IntWalk.i64_in _ (by omega)]
theorem lt_of_get {xs : List α} {i : Nat} {x : α} (h : xs[i]? = some x) : i < xs.length := (List.getElem?_eq_some_iff.1 h).1
theorem ltI_in {xs : List α} {i : Nat} {x : α} (h : xs[i]? = some x) : ltI (i : Int) (lenI xs) = true := by
  have := lt_of_get h
  unfold ltI lenI; exact decide_eq_true (by omega)
theorem ltI_out {xs : List α} {n : Nat} (h : xs.length = n) : ltI (n : Int) (lenI xs) = false := by
  unfold ltI lenI; exact decide_eq_false (by omega)
theorem ltI_no {a b : Int} (h : ¬ a < b) : ltI a b = false := decide_eq_false h
theorem ltI_yes {a b : Int} (h : a < b) : ltI a b = true := decide_eq_true h
theorem inB_in {xs : List α} {i : Nat} {x : α} (h : xs[i]? = some x) : inB (i : Int) xs = true := by
  have := lt_of_get h
  unfold inB idxOk leI ltI; rw [decide_eq_true (by omega), decide_eq_true (by omega)]; rfl
theorem inB_lt {xs : List α} {i : Nat} (h : i < xs.length) : inB (i : Int) xs = true := by
  unfold inB idxOk leI ltI; rw [decide_eq_true (by omega), decide_eq_true (by omega)]; rfl
theorem gt_in {xs : List α} {i : Nat} {x : α} (d : α) (h : xs[i]? = some x) : gt d xs (i : Int) = x := by
  simp [gt, List.getD, h]
theorem bytI_in {xs : List UInt8} {i : Nat} {x : UInt8} (h : xs[i]? = some x) : bytI xs (i : Int) = (x.toNat : Int) := by
  simp [bytI, bytAt, List.getD, h]
theorem eqI_refl (n : Int) : eqI n n = true := by simp [eqI]
theorem eqS_refl (s : List UInt8) : eqS s s = true := by simp [eqS]
theorem mkB_in {xs : List α} {b : Nat} (hb : 0 < b) (h : xs.length * b ≤ big) : mkB b (lenI xs) = true := by
  have h1 : ((xs.length : Int) * (b : Int)) ≤ (big : Int) := by exact_mod_cast h
  unfold mkB lenI leI
  rw [decide_eq_true (Int.natCast_nonneg _), decide_eq_true h1]
  exact Nat.ble_eq_true_of_le hb
theorem repI_len {β : Type} {xs : List α} (d : β) : repI d (lenI xs) = List.replicate xs.length d := by simp [repI, lenI]
theorem gt_mid (d : α) {done : List α} {y : α} {r : List α} {i : Nat} (h : done.length = i) : gt d (done ++ y :: r) (i : Int) = y := by
  subst h; simp [gt, List.getD]
theorem stI_mid {done : List α} {x y : α} {r : List α} {i : Nat} (h : done.length = i) : stI (done ++ x :: r) (i : Int) y = done ++ y :: r := by
  subst h; simp [stI, List.set_append]
theorem inB_mid {done : List α} {y : α} {r : List α} {i : Nat} (h : done.length = i) : inB (i : Int) (done ++ y :: r) = true := by
  apply inB_lt; simp; omega
theorem ltI_mid {done : List α} {y : α} {r : List α} {i : Nat} (h : done.length = i) : ltI (i : Int) (lenI (done ++ y :: r)) = true := by
  unfold ltI lenI; exact decide_eq_true (by simp only [List.length_append, List.length_cons]; omega)
theorem drop_get {xs : List α} {i : Nat} {x : α} (h : xs[i]? = some x) : xs.drop i = x :: xs.drop (i + 1) := by
  have hl := lt_of_get h
  rw [List.drop_eq_getElem_cons hl]
  congr 1
  rw [List.getElem?_eq_getElem hl] at h
  exact Option.some.inj h
end
def szR (left : Int) (n : Nat) : Int := if (n : Int) ≤ left then left - n else -1
theorem szR_pos {left : Int} {n : Nat} (h : (n : Int) ≤ left) : szR left n = left - n := if_pos h
theorem szR_neg {left : Int} {n : Nat} (h : ¬ (n : Int) ≤ left) : szR left n = -1 := if_neg h
theorem szR_lt {left : Int} {n : Nat} (h0 : 0 ≤ left) : ltI (szR left n) 0 = !decide ((n : Int) ≤ left) := by
  unfold szR ltI
  split
  · rename_i h; rw [decide_eq_true h]; exact decide_eq_false (by omega)
  · rename_i h; rw [decide_eq_false h]; rfl
theorem szR_len {α : Type} {left : Int} {s : List α} (h0 : 0 ≤ left) (h1 : left ≤ 1048576) (hs : s.length ≤ big) : subW .i64 left (lenI s) = left - (s.length : Int) := by
  have : big = 140737488355328 := rfl
  exact subW_in (by unfold lenI; omega) (by unfold lenI; omega)
def wL {α : Type} (w : α → Nat) (xs : List α) : Nat := xs.length + (xs.map w).sum
def cL {α : Type} (c : α → Nat) (xs : List α) : Nat := (xs.map c).sum
theorem goL_sz {α Y : Type} (w : α → Nat) (y : Y) (z : Int → Y) : ∀ (xs : List α) (i : Nat) (a : Int), 0 ≤ a → goL (fun _ x (a : Int) => bif decide ((w x : Int) ≤ a) then Sum.inl (a - w x) else .inr y) z i xs a = if ((cL w xs : Nat) : Int) ≤ a then z (a - (cL w xs : Nat)) else y
  | [], _, a, h => by simp [goL, cL, h]
  | x :: r, i, a, h => by
    rw [goL]
    by_cases hx : (w x : Int) ≤ a
    · simp only [hx, decide_true, cond_true]
      rw [goL_sz w y z r (i + 1) (a - w x) (by omega)]
      have e : ((cL w (x :: r) : Nat) : Int) = w x + (cL w r : Nat) := by simp [cL]
      rw [e]
      by_cases h2 : ((cL w r : Nat) : Int) ≤ a - w x
      · rw [if_pos h2, if_pos (by omega)]; congr 1; omega
      · rw [if_neg h2, if_neg (by omega)]
    · simp only [hx, decide_false, cond_false]
      rw [if_neg]
      have e : ((cL w (x :: r) : Nat) : Int) = w x + (cL w r : Nat) := by simp [cL]
      rw [e]; omega
theorem cL_drop {α : Type} (c : α → Nat) {xs : List α} {i : Nat} {x : α} (h : xs[i]? = some x) : cL c (xs.drop i) = c x + cL c (xs.drop (i + 1)) := by
  rw [drop_get h]; simp [cL]
theorem cL_mem {α : Type} (c : α → Nat) : ∀ {xs : List α} {i : Nat} {x : α}, xs[i]? = some x → c x ≤ cL c xs
  | [], i, x, h => by simp at h
  | y :: r, 0, x, h => by simp at h; subst h; simp [cL]
  | y :: r, i + 1, x, h => by
    have := cL_mem c (xs := r) (i := i) (x := x) (by simpa using h)
    simp only [cL, List.map_cons, List.sum_cons] at this ⊢
    omega
theorem cL_le {α : Type} {c w : α → Nat} (h : ∀ x, c x ≤ 100 * (w x + 1)) : ∀ (xs : List α), cL c xs ≤ 100 * wL w xs
  | [] => by simp [cL]
  | x :: r => by
    have h1 := h x
    have h2 := cL_le h r
    simp only [cL, wL, List.map_cons, List.sum_cons, List.length_cons] at h2 ⊢
    omega
theorem cL_filter {α : Type} (c : α → Nat) (p : α → Bool) : ∀ (xs : List α), cL c (xs.filter p) ≤ cL c xs
  | [] => Nat.le_refl _
  | x :: r => by
    have ih := cL_filter c p r
    rw [List.filter_cons]
    simp only [cL, List.map_cons, List.sum_cons] at ih ⊢
    split
    · simp only [List.map_cons, List.sum_cons]; omega
    · omega
theorem cL_set {α : Type} (c : α → Nat) (y : α) : ∀ (xs : List α) (i : Nat) (x : α), xs[i]? = some x → c y = c x → cL c (xs.set i y) = cL c xs
  | [], i, x, h, _ => by simp at h
  | z :: r, 0, x, h, hc => by
    simp only [List.getElem?_cons_zero, Option.some.injEq] at h
    subst h
    simp [cL, hc]
  | z :: r, i + 1, x, h, hc => by
    have := cL_set c y r i x (by simpa using h) hc
    simp only [cL, List.set_cons_succ, List.map_cons, List.sum_cons] at this ⊢
    omega
theorem wL_filter {α : Type} (w : α → Nat) (p : α → Bool) (xs : List α) : wL w (xs.filter p) ≤ wL w xs :=
  Nat.add_le_add (List.length_filter_le _ _) (cL_filter w p xs)
theorem wL_stI {α : Type} (w : α → Nat) {xs : List α} {k : Int} {y : α} (d : α) (hk : inB k xs = true) (hw : w y = w (gt d xs k)) : wL w (stI xs k y) = wL w xs := by
  have h0 : 0 ≤ k ∧ k < xs.length := by
    unfold inB idxOk leI ltI at hk
    simpa using hk
  have hx : xs[k.toNat]? = some (gt d xs k) := by
    unfold gt
    rw [List.getD_eq_getElem?_getD, List.getElem?_eq_getElem (by omega)]; rfl
  have h1 : (stI xs k y).length = xs.length := by simp [stI]
  have h2 := cL_set w y xs k.toNat _ hx hw
  show (stI xs k y).length + cL w (xs.set k.toNat y) = xs.length + cL w xs
  rw [h1, h2]
theorem len_le_wL {α : Type} (w : α → Nat) (xs : List α) : xs.length ≤ wL w xs := Nat.le_add_right _ _
theorem mem_le_wL {α : Type} (w : α → Nat) {xs : List α} {y : α} (h : y ∈ xs) : w y ≤ wL w xs := by
  obtain ⟨i, hi⟩ := List.getElem?_of_mem h
  exact Nat.le_trans (cL_mem w hi) (Nat.le_add_left _ _)
def mkL {α : Type} (m : α → Int → α) (c : α → Nat) : List α → Int → List α
  | [], _ => []
  | x :: r, k => m x k :: mkL m c r (k + c x)
theorem goL_mk {α Y : Type} (m : α → Int → α) (c : α → Nat) (z : List α × Int → Y) : ∀ (xs : List α) (i : Nat) (d : List α) (k : Int), goL (fun _ x (a : List α × Int) => Sum.inl (a.1 ++ [m x a.2], a.2 + c x)) z i xs (d, k) = z (d ++ mkL m c xs k, k + (cL c xs : Nat))
  | [], _, d, k => by simp [goL, mkL, cL]
  | x :: r, i, d, k => by
    rw [goL]
    simp only
    rw [goL_mk m c z r (i + 1)]
    congr 1
    have e : ((cL c (x :: r) : Nat) : Int) = c x + (cL c r : Nat) := by simp [cL]
    rw [e]
    simp only [mkL, List.append_assoc, List.singleton_append, Prod.mk.injEq, true_and]
    omega
theorem mkL_len {α : Type} (m : α → Int → α) (c : α → Nat) : ∀ (xs : List α) (k : Int), (mkL m c xs k).length = xs.length
  | [], _ => rfl
  | x :: r, k => by simp [mkL, mkL_len m c r]
theorem mkL_get {α : Type} (m : α → Int → α) (c : α → Nat) : ∀ (xs : List α) (k : Int) (i : Nat) (y : α), (mkL m c xs k)[i]? = some y → ∃ x, xs[i]? = some x ∧ y = m x (k + (cL c (xs.take i) : Nat))
  | [], k, i, y, h => by simp [mkL] at h
  | x :: r, k, 0, y, h => by
    simp only [mkL, List.getElem?_cons_zero, Option.some.injEq] at h
    exact ⟨x, rfl, by simp [cL, ← h]⟩
  | x :: r, k, i + 1, y, h => by
    simp only [mkL, List.getElem?_cons_succ] at h
    obtain ⟨x', h1, h2⟩ := mkL_get m c r _ i y h
    refine ⟨x', by simpa using h1, ?_⟩
    rw [h2]
    congr 1
    simp [cL]; omega
theorem mkL_getx {α : Type} (m : α → Int → α) (c : α → Nat) : ∀ (xs : List α) (k : Int) (i : Nat) (x : α), xs[i]? = some x → (mkL m c xs k)[i]? = some (m x (k + (cL c (xs.take i) : Nat)))
  | [], k, i, x, h => by simp at h
  | y :: r, k, 0, x, h => by
    simp only [List.getElem?_cons_zero, Option.some.injEq] at h
    subst h
    simp [mkL, cL]
  | y :: r, k, i + 1, x, h => by
    simp only [List.getElem?_cons_succ] at h
    have := mkL_getx m c r (k + c y) i x h
    simp only [mkL, List.getElem?_cons_succ, this, Option.some.injEq]
    congr 1
    simp [cL]; omega
theorem goL_cnt {α Y : Type} (c : α → Nat) (z : Int → Y) : ∀ (xs : List α) (i : Nat) (k : Int), goL (fun _ x (a : Int) => Sum.inl (a + (c x : Nat))) z i xs k = z (k + (cL c xs : Nat))
  | [], _, k => by simp [goL, cL]
  | x :: r, i, k => by
    rw [goL]
    simp only
    rw [goL_cnt c z r (i + 1)]
    congr 1
    simp [cL]; omega
theorem cL_take {α : Type} (c : α → Nat) {xs : List α} {i : Nat} {x : α} (h : xs[i]? = some x) : cL c (xs.take (i + 1)) = cL c (xs.take i) + c x := by
  rw [List.take_add_one, h]; simp [cL]
theorem cL_split {α : Type} (c : α → Nat) (xs : List α) (i : Nat) : cL c xs = cL c (xs.take i) + cL c (xs.drop i) := by
  have : xs = xs.take i ++ xs.drop i := (List.take_append_drop i xs).symm
  conv => lhs; rw [this]
  simp only [cL, List.map_append, List.sum_append]
theorem cL_take_all {α : Type} (c : α → Nat) (xs : List α) : cL c (xs.take xs.length) = cL c xs := by rw [List.take_length]
theorem cL_one {α : Type} (xs : List α) : cL (fun _ => 1) xs = xs.length := by
  induction xs with
  | nil => rfl
  | cons x r ih => simp only [cL, List.map_cons, List.sum_cons, List.length_cons] at ih ⊢; omega
theorem goL_cp {α Y : Type} (z : List α → Y) : ∀ (xs : List α) (i : Nat) (d : List α), goL (fun _ x (a : List α) => Sum.inl (a ++ [x])) z i xs d = z (d ++ xs)
  | [], _, d => by simp [goL]
  | x :: r, i, d => by rw [goL]; simp only; rw [goL_cp z r (i + 1)]; simp
end Go.Av
namespace Go.Av
open Go.RowKit (Below)
mutual
def BgK : (k : K) → T k → Prop
  | .int _, _ => True
  | .bool, _ => True
  | .str, s => List.length (α := UInt8) s ≤ big
  | .sl e ks, xs => (els (e := e) (ks := ks) xs).length ≤ big ∧ ∀ y ∈ els (e := e) (ks := ks) xs, BgL ks y
def BgL : (ks : List K) → Tl ks → Prop
  | [], _ => True
  | k :: ks, x => BgK k x.1 ∧ BgL ks x.2
end
def flB (E : En) (rd : Nat → Bool) : List (Nat × Nat) → List K → Nat → Bool
  | [], [], _ => true
  | (o, u) :: r, ks, off => Nat.beq o off && (rd u && match E.ti u with
    | some tu => K.sames (ks.take tu.ks.length) tu.ks && (Nat.ble tu.ks.length ks.length && flB E rd r (ks.drop tu.ks.length) (off + tu.ks.length))
    | none => false)
  | _, _, _ => false
def rdB (E : En) : Nat → Nat → Bool
  | 0, _ => false
  | n + 1, t => match E.ti t with
    | some ti => (match ti.agg with
      | true => flB E (rdB E n) ti.flds ti.ks 0
      | false => (match ti.ks with
        | [.sl e ks] => (match E.ti e with | some te => K.sames ks te.ks && (Nat.blt 0 te.bytes && (Nat.blt 0 te.ks.length && rdB E n e)) | none => false)
        | _ => true))
    | none => false
section
variable {H : Type} {enc : TypeId × Value → H} {P : Program} {w : World} {spare : Nat → Bool} {held : Bool} {E : En}
theorem ROl_cells (w : World) : ∀ (ks : List K) (x : Tl ks) (cs : List Value) (b o : Nat), ROs (Zall w) w ks x cs → (∀ j v, cs[j]? = some v → w.cell? ⟨b, o + j, none⟩ = some v) → ROl (Zall w) w ks x b o
  | [], _, _, _, _, _, _ => trivial
  | k :: ks, x, [], b, o, h, _ => h.elim
  | k :: ks, x, v :: vs, b, o, h, hc => ⟨⟨v, hc 0 v rfl, h.1⟩, ROl_cells w ks x.2 vs b (o + 1) h.2 fun j u hu => by have := hc (j + 1) u (by simpa using hu); rwa [show o + 1 + j = o + (j + 1) by omega]⟩
theorem ROs_len (w : World) {Z : Nat → Prop} : ∀ (ks : List K) (x : Tl ks) (cs : List Value), ROs Z w ks x cs → cs.length = ks.length
  | [], _, [], _ => rfl
  | [], _, _ :: _, h => h.elim
  | k :: ks, x, [], h => h.elim
  | k :: ks, x, v :: vs, h => by rw [List.length_cons, List.length_cons, ROs_len w ks x.2 vs h.2]
theorem ROs_app (w : World) {Z : Nat → Prop} : ∀ (a b : List K) (cs cs' : List Value) (x : Tl a) (y : Tl b), ROs Z w a x cs → BgL a x → ROs Z w b y cs' → BgL b y → ∃ z : Tl (a ++ b), ROs Z w (a ++ b) z (cs ++ cs') ∧ BgL (a ++ b) z
  | [], b, [], cs', _, y, _, _, h, hb => ⟨y, h, hb⟩
  | [], b, _ :: _, cs', _, y, h, _, _, _ => h.elim
  | k :: a, b, [], cs', x, y, h, _, _, _ => h.elim
  | k :: a, b, v :: vs, cs', x, y, h, hx, h', hb => by
    obtain ⟨z, h1, h2⟩ := ROs_app w a b vs cs' x.2 y h.2 hx.2 h' hb
    exact ⟨(x.1, z), ⟨h.1, h1⟩, ⟨hx.1, h2⟩⟩
theorem choose_list {α : Type} (p : Nat → α → Prop) : ∀ (n : Nat), (∀ i, i < n → ∃ x, p i x) → ∃ xs : List α, xs.length = n ∧ ∀ i x, xs[i]? = some x → p i x
  | 0, _ => ⟨[], rfl, fun i x h => by simp at h⟩
  | n + 1, h => by
    obtain ⟨xs, h1, h2⟩ := choose_list p n fun i hi => h i (by omega)
    obtain ⟨x, hx⟩ := h n (by omega)
    refine ⟨xs ++ [x], by simp [h1], fun i y hy => ?_⟩
    by_cases hi : i < n
    · rw [List.getElem?_append_left (by omega)] at hy
      exact h2 i y hy
    · rw [List.getElem?_append_right (by omega), h1] at hy
      cases hk : i - n with
      | zero =>
        rw [hk] at hy
        simp only [List.getElem?_cons_zero, Option.some.injEq] at hy
        subst hy
        rwa [show i = n by omega]
      | succ k => rw [hk] at hy; simp at hy
theorem fld_get : ∀ (l : List (Nat × Nat)) (i : Nat), fld l i = l[i]?
  | [], i => by cases i <;> rfl
  | x :: r, 0 => rfl
  | x :: r, i + 1 => by show fld r i = _; rw [fld_get r i]; rfl
theorem cells_get {base : Nat} {a : Addr} {n : Nat} {cs : List Value} (h : w.cells? base a n = some cs) : cs.length = n ∧ ∀ j v, cs[j]? = some v → w.cell? (a.add j) = some v := by
  unfold World.cells? at h
  split at h
  · refine ⟨by simpa using mapM_some_length h, fun j v hj => ?_⟩
    have hjl : j < n := by
      have := (List.getElem?_eq_some_iff.1 hj).1
      have h2 : cs.length = n := by simpa using mapM_some_length h
      omega
    have := mapM_some_get h j j (by simp [hjl])
    rw [this, hj]
  · simp at h
theorem cell_spot {a : Addr} {v : Value} (h : w.cell? a = some v) : a.spot = none ∧ a.block < w.heap.size := by
  unfold World.cell? at h
  split at h
  · rename_i c _ _ hb
    split at h
    · simp at h
    · rename_i hs
      refine ⟨by simpa using hs, ?_⟩
      rcases Nat.lt_or_ge a.block w.heap.size with hh | hh
      · exact hh
      · rw [Array.getElem?_eq_none hh] at hb; simp at hb
  · simp at h
theorem weightsAll_mem {e : TypeId} : ∀ (l : List (DataW H)) {d : DataW H}, d ∈ l → ∀ n ∈ d.weights P e, n ∈ DataW.weightsAll P e l
  | [], _, h, _, _ => by simp at h
  | x :: r, d, h, n, hn => by
    simp only [DataW.weightsAll, List.mem_append]
    rcases List.mem_cons.1 h with h | h
    · subst h; exact .inl hn
    · exact .inr (weightsAll_mem r h n hn)
theorem ROs_joined {ks a : List K} {cs : List Value} {m o : Nat} (hk : ks.take m = a) (hm : a.length = m) {x : Tl a} {y : Tl (ks.drop m)} (x1 : ROs (Zall w) w a x ((cs.drop o).take m)) (x2 : BgL a x) (y1 : ROs (Zall w) w (ks.drop m) y (cs.drop (o + m))) (y2 : BgL (ks.drop m) y) : ∃ z : Tl ks, ROs (Zall w) w ks z (cs.drop o) ∧ BgL ks z := by
  have h := ROs_app w _ _ _ _ x y x1 x2 y1 y2
  have e1 : a ++ ks.drop m = ks := by rw [← hk]; exact List.take_append_drop m ks
  have e2 : (cs.drop o).take m ++ cs.drop (o + m) = cs.drop o := by rw [← List.drop_drop, List.take_append_drop]
  rw [e1, e2] at h
  exact h
theorem trod_RO (hT : TTok P E) : ∀ (n t : Nat) (ti : TI), rdB E n t = true → E.ti t = some ti → ∀ (fuel : Nat) (cs : List Value) (d : DataW H) (ps : List MemPlace), DataW.trod enc P w 0 spare held fuel t cs = some (d, ps) → (∀ m ∈ d.weights P t, m ≤ big) → ∃ x : Tl ti.ks, ROs (Zall w) w ti.ks x cs ∧ BgL ti.ks x := by
  intro n
  induction n with
  | zero => intro t ti h; simp [rdB] at h
  | succ n ih =>
    intro t ti hrd hti fuel cs d ps htr hw
    have hTi := hT t ti hti
    obtain ⟨dd, hu, hdd⟩ := hTi.desc
    unfold rdB at hrd
    rw [hti] at hrd
    simp only at hrd
    obtain ⟨inf, hinf, hsz, _⟩ := hTi.info
    have hcell : P.cellsOf t = ti.ks.length := by simp [Program.cellsOf, hinf, hsz]
    cases dd with
    | bool =>
      obtain ⟨hag, hks⟩ := hdd
      obtain ⟨b, rfl, _⟩ := DataW.trod_bool hu htr
      rw [hks]
      exact ⟨(b, ()), ⟨rfl, trivial⟩, ⟨trivial, trivial⟩⟩
    | int k =>
      obtain ⟨hag, hks⟩ := hdd
      obtain ⟨v, rfl, _, hwf⟩ := DataW.trod_int hu htr
      rw [hks]
      refine ⟨(v, ()), ⟨⟨rfl, ?_⟩, trivial⟩, ⟨trivial, trivial⟩⟩
      simpa [Lit.wf, inR] using hwf
    | string =>
      obtain ⟨hag, hks⟩ := hdd
      obtain ⟨v, rfl, hx, _⟩ := DataW.trod_string hu htr
      simp only [Prod.mk.injEq] at hx
      obtain ⟨rfl, _⟩ := hx
      rw [hks]
      have hl := hw v.data.toList.length (by simp [DataW.weights])
      exact ⟨(v.data.toList, ()), ⟨⟨by simp [mkS], hl⟩, trivial⟩, ⟨hl, trivial⟩⟩
    | slice e =>
      obtain ⟨hag, ks, hks, hel⟩ := hdd
      obtain ⟨ag, kk, el, by', fl⟩ := ti
      simp only at hks hel hag
      subst hks
      subst hel
      subst hag
      simp only at hrd
      cases hte : E.ti el with
      | none => rw [hte] at hrd; simp at hrd
      | some te =>
      rw [hte] at hrd
      simp only [Bool.and_eq_true] at hrd
      obtain ⟨r1, r2, r3, r4⟩ := hrd
      have hkk := K.sames_eq _ _ r1
      subst hkk
      have hby : 0 < te.bytes := Nat.lt_of_succ_le (Nat.le_of_ble_eq_true r2)
      have hkl : 0 < te.ks.length := Nat.lt_of_succ_le (Nat.le_of_ble_eq_true r3)
      obtain ⟨inf2, hinf2, hsz2, hby2, _⟩ := (hT el te hte).info
      have hce : P.cellsOf el = te.ks.length := by simp [Program.cellsOf, hinf2, hsz2]
      have hbe : P.bytesOf el = te.bytes := by simp [Program.bytesOf, hinf2, hby2]
      rcases DataW.trod_slice hu htr with ⟨rfl, _⟩ | ⟨a, len, cap, elems, rest, m, _, rfl, hx, _, hlc, hcm, hlen, hel, _⟩
      · exact ⟨(([] : List (Tl te.ks)), ()), ⟨⟨none, 0, rfl, Nat.le_refl _, Nat.zero_le _, fun _ => rfl, fun h => absurd rfl h⟩, trivial⟩, ⟨⟨Nat.zero_le _, fun y hy => by simp [els] at hy⟩, trivial⟩⟩
      · simp only [Prod.mk.injEq] at hx
        obtain ⟨rfl, _⟩ := hx
        have hwl : (elems.length + rest.length) * te.bytes ≤ big := by
          have := hw ((elems.length + rest.length) * P.bytesOf el) (by simp [DataW.weights, hu])
          rwa [hbe] at this
        have hlb : len ≤ big := by
          have := Nat.le_mul_of_pos_right (elems.length + rest.length) hby
          omega
        rw [hce] at hel
        have hone : ∀ i, i < len → ∃ x : Tl te.ks, (a.spot = none ∨ 0 < i) ∧ (∃ cells, w.cells? 0 (a.add (i * te.ks.length)) te.ks.length = some cells ∧ ROs (Zall w) w te.ks x cells) ∧ BgL te.ks x := fun i hi => by
          have h1 := hel i hi
          have hei : elems[i]? = some (elems[i]'(by omega)) := List.getElem?_eq_getElem (by omega)
          rw [hei] at h1
          obtain ⟨cells, hc1, hc2⟩ := Option.bind_eq_some_iff.1 h1
          obtain ⟨x, hx1, hx2⟩ := ih el te r4 hte m cells _ _ hc2 fun q hq => hw q (by
            simp only [DataW.weights, hu, List.mem_cons, List.mem_append]
            right; left
            exact weightsAll_mem (elems.map (·.1)) (List.mem_map.2 ⟨_, List.getElem_mem (by omega : i < elems.length), rfl⟩) q hq)
          refine ⟨x, ?_, ⟨cells, hc1, hx1⟩, hx2⟩
          rcases Nat.eq_zero_or_pos i with h0 | h0
          · left
            subst h0
            obtain ⟨g1, g2⟩ := cells_get hc1
            obtain ⟨v, hv⟩ : ∃ v, cells[0]? = some v := ⟨cells[0]'(by omega), List.getElem?_eq_getElem (by omega)⟩
            have := g2 0 v hv
            simp [Addr.add] at this
            exact (cell_spot this).1
          · exact .inr h0
        obtain ⟨xs, hxl, hxs⟩ := choose_list _ len hone
        refine ⟨((xs : List (Tl te.ks)), ()), ⟨⟨some a, cap, by show Value.slice (some a) len cap = .slice (some a) xs.length cap; rw [hxl], by show xs.length ≤ cap; omega, by show xs.length ≤ big; omega, fun h => by simp at h, fun hne => ?_⟩, trivial⟩, ⟨⟨by show xs.length ≤ big; omega, fun y hy => ?_⟩, trivial⟩⟩
        · have hpos : 0 < xs.length := List.length_pos_iff.2 hne
          have hx0 := hxs 0 _ (List.getElem?_eq_getElem hpos)
          have hsp : a.spot = none := by
            rcases hx0.1 with h | h
            · exact h
            · omega
          obtain ⟨ab, ao, asp⟩ := a
          simp only at hsp
          subst hsp
          have hadd : ∀ o k, (⟨ab, o, none⟩ : Addr).add k = ⟨ab, o + k, none⟩ := fun o k => by
            unfold Addr.add
            split
            · rename_i h; subst h; rfl
            · rfl
          have hblk : ab < w.heap.size := by
            obtain ⟨_, ⟨cells, hc1, hc2⟩, _⟩ := hx0
            obtain ⟨g1, g2⟩ := cells_get hc1
            obtain ⟨v, hv⟩ : ∃ v, cells[0]? = some v := ⟨cells[0]'(by omega), List.getElem?_eq_getElem (by omega)⟩
            have := g2 0 v hv
            rw [hadd, hadd] at this
            exact (cell_spot this).2
          refine ⟨ab, ao, rfl, hblk, hblk, fun i x hi => ?_⟩
          obtain ⟨_, ⟨cells, hc1, hc2⟩, _⟩ := hxs i x hi
          obtain ⟨g1, g2⟩ := cells_get hc1
          refine ROl_cells w te.ks x cells ab (ao + i * te.ks.length) hc2 fun j v hj => ?_
          have := g2 j v hj
          rw [hadd, hadd] at this
          exact this
        · obtain ⟨i, hi⟩ := List.getElem?_of_mem hy
          exact (hxs i y hi).2.2
    | struct fs =>
      obtain ⟨hag, hfl, _⟩ := hdd
      rw [hag] at hrd
      simp only at hrd
      obtain ⟨xs, m, _, hx, hlen, hxl, hget⟩ := DataW.trod_struct hu htr
      simp only [Prod.mk.injEq] at hx
      obtain ⟨rfl, _⟩ := hx
      rw [hcell] at hlen
      have key : ∀ (l : List (Nat × Nat)) (ks : List K) (off i : Nat), (∀ j, fld l j = fld ti.flds (i + j)) → off + ks.length = ti.ks.length → flB E (rdB E n) l ks off = true → ∃ x : Tl ks, ROs (Zall w) w ks x (cs.drop off) ∧ BgL ks x := by
        intro l
        induction l with
        | nil =>
          intro ks off i hf ho hb
          cases ks with
          | nil =>
            rw [List.drop_of_length_le (by simp at ho; omega)]
            exact ⟨(), trivial, trivial⟩
          | cons k ks => simp [flB] at hb
        | cons p r ihl =>
          intro ks off i hf ho hb
          obtain ⟨o, u⟩ := p
          have hb' : (Nat.beq o off && (rdB E n u && match E.ti u with
            | some tu => K.sames (ks.take tu.ks.length) tu.ks && (Nat.ble tu.ks.length ks.length && flB E (rdB E n) r (ks.drop tu.ks.length) (off + tu.ks.length))
            | none => false)) = true := by
            cases ks <;> exact hb
          simp only [Bool.and_eq_true] at hb'
          obtain ⟨b1, b2, b3⟩ := hb'
          cases htu : E.ti u with
          | none => rw [htu] at b3; simp at b3
          | some tu =>
          rw [htu] at b3
          simp only [Bool.and_eq_true] at b3
          obtain ⟨b3, b4, b5⟩ := b3
          have ho' := beq_eq b1
          subst ho'
          have hks := K.sames_eq _ _ b3
          have hkl : tu.ks.length ≤ ks.length := Nat.le_of_ble_eq_true b4
          have h0 := hf 0
          rw [Nat.add_zero] at h0
          obtain ⟨fi, f1, f2, f3⟩ := hfl i o u h0.symm
          have hg := hget i fi f1
          rw [f2, f3] at hg
          obtain ⟨inu, hinu, hsu, _⟩ := (hT u tu htu).info
          have hcu : P.cellsOf u = tu.ks.length := by simp [Program.cellsOf, hinu, hsu]
          rw [hcu] at hg
          have hil : i < xs.length := by rw [hxl]; exact (Array.getElem?_eq_some_iff.1 f1).1
          rw [List.getElem?_eq_getElem hil] at hg
          obtain ⟨x, x1, x2⟩ := ih u tu b2 htu m _ _ _ hg fun q hq => hw q (by
            simp only [DataW.weights, hu]
            refine DataW.weights_mem_each (j := i) (t := u) (d := xs[i].1) ?_ ?_ q hq
            · rw [List.getElem?_map, Array.getElem?_toList, f1, Option.map_some, f3]
            · rw [List.getElem?_map, List.getElem?_eq_getElem hil]; rfl)
          obtain ⟨y, y1, y2⟩ := ihl (ks.drop tu.ks.length) (o + tu.ks.length) (i + 1) (fun j => by rw [show i + 1 + j = i + (j + 1) by omega, ← hf (j + 1)]; rfl) (by rw [List.length_drop]; omega) b5
          exact ROs_joined hks rfl x1 x2 y1 y2
      obtain ⟨x, x1, x2⟩ := key ti.flds ti.ks 0 0 (fun j => by rw [Nat.zero_add]) (by omega) hrd
      exact ⟨x, x1, x2⟩
    | _ => exact hdd.elim
end
end Go.Av
namespace Go.Av
open Go.RowKit (Below)
def psB (E : En) : List Nat → List PK → Bool
  | [], [] => true
  | t :: ts, .c g ks :: ps => (match E.ti t with | some ti => boolEq g ti.agg && (K.sames ks ti.ks && rdB E 30 t) | none => false) && psB E ts ps
  | _, _ => false
def BgP : (ps : List PK) → PT ps → Prop
  | [], _ => True
  | .c _ ks :: ps, x => BgL ks x.1 ∧ BgP ps x.2
  | .pt _ :: ps, x => BgP ps x.2
  | .nil :: ps, x => BgP ps x
  | .fn _ _ :: ps, x => BgP ps x.2
  | .io _ _ :: ps, x => BgP ps x.2
  | .mv _ :: ps, x => BgP ps x.2
section
variable {H : Type} {enc : TypeId × Value → H} {P : Program} {w : World} {spare : Nat → Bool} {held : Bool} {E : En}
theorem arg_RO (hT : TTok P E) {t : Nat} {ti : TI} (hr : rdB E 30 t = true) (hti : E.ti t = some ti) {base : Nat} {v : Value} (hv : Value.okWide P w .any base t v) {d : DataW H} {p : List MemPlace} (h : DataW.Trod enc P w 0 spare held t v d p) (hw : ∀ m ∈ d.weights P t, m ≤ big) :
    ∃ x : Tl ti.ks, ROv (Zall w) w ti.agg ti.ks x v ∧ BgL ti.ks x := by
  obtain ⟨fuel, h⟩ := h
  obtain ⟨x, h1, h2⟩ := trod_RO hT 30 t ti hr hti fuel _ d p h hw
  refine ⟨x, ⟨v.cells.toList, ?_, h1⟩, h2⟩
  obtain ⟨dd, hu, hdd⟩ := (hT t ti hti).desc
  unfold Value.okWide at hv
  rw [hu] at hv
  cases dd with
  | struct fs =>
    obtain ⟨cs, rfl, _⟩ := hv
    rw [hdd.1]
    show Value.agg cs = .agg cs.toList.toArray
    simp
  | bool =>
    rw [hdd.1]
    unfold Cell.okWide at hv
    rw [hu] at hv
    cases v <;> first | rfl | exact (by simp [Cell.ok, hu] at hv)
  | int k =>
    rw [hdd.1]
    unfold Cell.okWide at hv
    rw [hu] at hv
    cases v <;> first | rfl | exact (by simp [Cell.ok, hu] at hv)
  | string =>
    rw [hdd.1]
    unfold Cell.okWide at hv
    rw [hu] at hv
    cases v <;> first | rfl | exact (by simp [Cell.ok, hu] at hv)
  | slice e =>
    rw [hdd.1]
    unfold Cell.okWide at hv
    rw [hu] at hv
    cases v <;> first | rfl | exact (by simp [Cell.ok, hu] at hv)
  | _ => exact hdd.elim
theorem trod_len {base : Nat} {spare : Nat → Bool} {held : Bool} : ∀ (ts : List Nat) (vs : List Value) (ds : List (DataW H)) (pl : List MemPlace), DataW.TrodAll enc P w base spare held ts vs ds pl → ds.length = ts.length
  | [], [], [], _, _ => rfl
  | t :: ts, v :: vs, d :: ds, _, h => by
    obtain ⟨p, q, _, h2, _⟩ := h
    simp [trod_len ts vs ds q h2]
  | [], _ :: _, _, _, h => h.elim
  | [], [], _ :: _, _, h => h.elim
  | _ :: _, [], _, _, h => h.elim
  | _ :: _, _ :: _, [], _, h => h.elim
theorem args_all (hT : TTok P E) {base : Nat} : ∀ (ts : List Nat) (ps : List PK), psB E ts ps = true → ∀ (vs : List Value) (ds : List (DataW H)) (pl : List MemPlace) (n : Nat), DataW.TrodAll enc P w 0 spare held ts vs ds pl → (∀ (j : Nat) t v, ts[j]? = some t → vs[j]? = some v → Value.okWide P w .any base t v) →
      (∀ m ∈ DataW.weightsEach P ts ds, m ≤ big) → ∃ x : PT ps, ArgsR (Zall w) w (fun _ _ => False) ps x vs n ∧ BgP ps x
  | [], [], _, [], [], pl, n, h, hv, hw => ⟨(), trivial, trivial⟩
  | [], [], _, _ :: _, _, pl, n, h, hv, hw => h.elim
  | [], [], _, [], _ :: _, pl, n, h, hv, hw => h.elim
  | t :: ts, .c g ks :: ps, hp, [], ds, pl, n, h, hv, hw => h.elim
  | t :: ts, .c g ks :: ps, hp, _ :: _, [], pl, n, h, hv, hw => h.elim
  | t :: ts, .c g ks :: ps, hp, v :: vs, d :: ds, pl, n, h, hv, hw => by
    obtain ⟨p, q, h1, h2, _⟩ := h
    unfold psB at hp
    simp only [Bool.and_eq_true] at hp
    obtain ⟨hp1, hp2⟩ := hp
    cases hti : E.ti t with
    | none => rw [hti] at hp1; simp at hp1
    | some ti =>
      rw [hti] at hp1
      simp only [Bool.and_eq_true] at hp1
      obtain ⟨b1, b2, b3⟩ := hp1
      have e1 := boolEq_eq b1
      have e2 := K.sames_eq _ _ b2
      subst e1
      subst e2
      obtain ⟨x, x1, x2⟩ := arg_RO hT b3 hti (hv 0 t v rfl rfl) h1 (fun m hm => hw m (by simp only [DataW.weightsEach, List.mem_append]; exact .inl hm))
      obtain ⟨y, y1, y2⟩ := args_all hT ts ps hp2 vs ds q n h2 (fun j t' v' ht hv' => hv (j + 1) t' v' (by simpa using ht) (by simpa using hv')) (fun m hm => hw m (by simp only [DataW.weightsEach, List.mem_append]; exact .inr hm))
      exact ⟨(x, y), ⟨x1, y1⟩, ⟨x2, y2⟩⟩
  | [], .c _ _ :: _, hp, _, _, _, _, _, _, _ => by simp [psB] at hp
  | [], .pt _ :: _, hp, _, _, _, _, _, _, _ => by simp [psB] at hp
  | [], .nil :: _, hp, _, _, _, _, _, _, _ => by simp [psB] at hp
  | [], .fn _ _ :: _, hp, _, _, _, _, _, _, _ => by simp [psB] at hp
  | [], .io _ _ :: _, hp, _, _, _, _, _, _, _ => by simp [psB] at hp
  | [], .mv _ :: _, hp, _, _, _, _, _, _, _ => by simp [psB] at hp
  | _ :: _, [], hp, _, _, _, _, _, _, _ => by simp [psB] at hp
  | _ :: _, .pt _ :: _, hp, _, _, _, _, _, _, _ => by simp [psB] at hp
  | _ :: _, .nil :: _, hp, _, _, _, _, _, _, _ => by simp [psB] at hp
  | _ :: _, .fn _ _ :: _, hp, _, _, _, _, _, _, _ => by simp [psB] at hp
  | _ :: _, .io _ _ :: _, hp, _, _, _, _, _, _, _ => by simp [psB] at hp
  | _ :: _, .mv _ :: _, hp, _, _, _, _, _, _, _ => by simp [psB] at hp
theorem resR_bool {fresh : Bool} {Z : Nat → Prop} {w : World} {H : Nat → Nat → Prop} {b : Bool} : ∀ {vs : List Value}, ResR fresh Z w H [(false, [.bool])] ((b, ()), ()) vs 0 → vs = [.bool b]
  | [], h => h.elim
  | [v], h => by
    obtain ⟨⟨cs, hc, hcells⟩, _⟩ := h
    have hc : cs = [v] := hc
    subst hc
    have hv : v = .bool b := hcells.1
    rw [hv]
  | _ :: _ :: _, h => h.2.elim
theorem law_calls {f : Nat} {fn : Func} {c : Code} {s : Su} (hsu : SuOK P f s) (hf : P.funcs[f]? = some fn) (hname : (fn.name == "runtime.NumGoroutine") = false) (hb : fn.body = some c)
    {args : Array Value} {x : PT s.ps} (hargs : ArgsR (Zall w) w (fun _ _ => False) s.ps x args.toList 0)
    (hlaw : ∃ y, s.ans x = some y ∧ ∀ (Z : Nat → Prop) (w' : World) (H : Nat → Nat → Prop) (vs : List Value), ResR s.fresh Z w' H s.rs y.2 vs 0 → vs = [.bool true]) :
    Calls P f args w fun e w' => e = .returned (.bool true) ∧ Below w.heap.size w w' := by
  obtain ⟨y, hy, hres⟩ := hlaw
  have h := hsu w (Zall w) (fun _ _ => False) args x y hargs (fun b hb => hb) (fun i b hb => hb.elim) (fun i j b hb => hb.elim) hy
  rw [MuLone.run_callFunc_enter hf hname hb] at h
  have h : Calls P f args w _ := h
  refine h.mono fun e w' he => ?_
  cases e with
  | returned v =>
    obtain ⟨Z', H', vs, rfl, ha, _, hr⟩ := he
    have hvs := hres Z' w' _ vs hr
    subst hvs
    exact ⟨rfl, ha.os, ha.tape, ha.output, ha.size, fun k hk => ha.block k hk fun i hi => hi⟩
  | _ => exact he.elim
theorem Below.trodAll (hl : laidOutB P = true) {W W' : World} (hb : Below W.heap.size W W') : ∀ (ts : List TypeId) (vs : List Value) (ds : List (DataW H)) (ps : List MemPlace), (∀ t ∈ ts, P.readableRec t = true ∧ t < P.types.size) → DataW.TrodAll enc P W 0 (fun _ => true) true ts vs ds ps → (∀ x ∈ ps, x.block < W.heap.size) → DataW.TrodAll enc P W' 0 (fun b => decide (b < W.heap.size)) true ts vs ds ps
  | [], [], [], ps, _, h, _ => h
  | t :: ts, v :: vs, d :: ds, ps, ht, h, hlt => by
    obtain ⟨p, q, h1, h2, rfl⟩ := h
    exact ⟨p, q, Below.trod hl (ht t (List.mem_cons_self ..)).1 (ht t (List.mem_cons_self ..)).2 h1 hb (fun x hx => hlt x (List.mem_append_left _ hx)), Below.trodAll hl hb ts vs ds q (fun t ht' => ht t (List.mem_cons_of_mem _ ht')) h2 (fun x hx => hlt x (List.mem_append_right _ hx)), rfl⟩
  | [], _ :: _, _, _, _, h, _ => h.elim
  | [], [], _ :: _, _, _, h, _ => h.elim
  | _ :: _, [], _, _, _, h, _ => h.elim
  | _ :: _, _ :: _, [], _, _, h, _ => h.elim
theorem law_post {fn : Func} {s : ChangeSpec} (hl : laidOutB P = true) (hvars : s.vars = []) {rt : TypeId} (hrt : fn.resultTypes = #[rt]) (hru : P.underlying rt = some .bool) (hpar : ∀ t ∈ fn.params.toList, P.readableRec t = true ∧ t < P.types.size)
    {W W' : World} {args : Array Value} {ds gs : List (DataW H)} {before : List MemPlace} (hW : DataW.Whole enc P fn.params.toList s.vars false W args.toList ds gs before) (hb : Below W.heap.size W W')
    (hs : s.fn H (ds ++ gs) = { results := [.lit (.bool true)], args := ds }) : s.post enc P fn false true false false W args (.bool true) W' := by
  have hlt := hW.lt
  have hW0 := hW
  obtain ⟨p, q, hA, hV, rfl, _, _⟩ := hW
  rw [hvars] at hV
  obtain ⟨rfl, rfl⟩ : gs = [] ∧ q = [] := by
    cases gs with
    | nil => exact ⟨rfl, hV⟩
    | cons _ _ => exact hV.elim
  refine ⟨ds, [], _, [], p, [], hW0, ?_, ?_, ?_, hb.frame _, fun h => by simp at h⟩
  · rw [hs, hrt]
    exact ⟨[], [], Go.RowKit.shut_bool hru true, rfl, rfl⟩
  · rw [hs]
    exact Below.trodAll hl hb _ _ _ _ hpar hA fun x hx => by have := hlt x (List.mem_append_left _ hx); simpa using this
  · rw [hs, hvars]
    rfl
end
end Go.Av
namespace Go.Av
structure Swo {α : Type} (lt : α → α → Bool) : Prop where
  irr : ∀ a, lt a a = false
  trans : ∀ a b c, lt a b = true → lt b c = true → lt a c = true
  neg : ∀ a b c, lt a c = true → lt a b = true ∨ lt b c = true
def eqv {α : Type} (lt : α → α → Bool) (a b : α) : Bool := !lt a b && !lt b a
def Stb {α : Type} (lt : α → α → Bool) (xs ys : List α) : Prop := xs.length = ys.length ∧ ∀ z, xs.filter (eqv lt z) = ys.filter (eqv lt z)
def Srt {α : Type} (lt : α → α → Bool) (xs : List α) : Prop := xs.Pairwise fun a b => lt b a = false
section
variable {α : Type} {lt : α → α → Bool}
theorem eqv_self (h : Swo lt) (a : α) : eqv lt a a = true := by simp [eqv, h.irr]
theorem eqv_iff {a b : α} : eqv lt a b = true ↔ lt a b = false ∧ lt b a = false := by simp [eqv]
theorem Swo.le_trans (h : Swo lt) {a b c : α} (h1 : lt b a = false) (h2 : lt c b = false) : lt c a = false := by
  cases hc : lt c a with
  | false => rfl
  | true => rcases h.neg c b a hc with h3 | h3 <;> simp_all
theorem eqv_trans (h : Swo lt) {a b c : α} (h1 : eqv lt a b = true) (h2 : eqv lt b c = true) : eqv lt a c = true := by
  rw [eqv_iff] at *
  exact ⟨h.le_trans h2.1 h1.1, h.le_trans h1.2 h2.2⟩
theorem eqv_symm {a b : α} (h : eqv lt a b = true) : eqv lt b a = true := by
  rw [eqv_iff] at *; exact ⟨h.2, h.1⟩
theorem Stb.refl (xs : List α) : Stb lt xs xs := ⟨rfl, fun _ => rfl⟩
theorem Stb.symm {xs ys : List α} (h : Stb lt xs ys) : Stb lt ys xs := ⟨h.1.symm, fun z => (h.2 z).symm⟩
theorem Stb.trans {xs ys zs : List α} (h1 : Stb lt xs ys) (h2 : Stb lt ys zs) : Stb lt xs zs := ⟨h1.1.trans h2.1, fun z => (h1.2 z).trans (h2.2 z)⟩
theorem Stb.append {a b c d : List α} (h1 : Stb lt a b) (h2 : Stb lt c d) : Stb lt (a ++ c) (b ++ d) := ⟨by simp [h1.1, h2.1], fun z => by simp [h1.2 z, h2.2 z]⟩
theorem Stb.mem (h : Swo lt) {xs ys : List α} (hs : Stb lt xs ys) {x : α} : x ∈ xs ↔ x ∈ ys := by
  have key : ∀ {xs ys : List α}, Stb lt xs ys → x ∈ xs → x ∈ ys := fun {xs ys} hs hx => by
    have : x ∈ xs.filter (eqv lt x) := List.mem_filter.2 ⟨hx, eqv_self h x⟩
    rw [hs.2 x] at this
    exact (List.mem_filter.1 this).1
  exact ⟨key hs, key hs.symm⟩
theorem Stb.swap (h : Swo lt) {a b : List α} (hab : ∀ x ∈ a, ∀ y ∈ b, lt y x = true) : Stb lt (a ++ b) (b ++ a) := by
  refine ⟨by simp [Nat.add_comm], fun z => ?_⟩
  rw [List.filter_append, List.filter_append]
  by_cases ha : a.filter (eqv lt z) = []
  · rw [ha]; simp
  · by_cases hb : b.filter (eqv lt z) = []
    · rw [hb]; simp
    · exfalso
      obtain ⟨x, hx⟩ := List.exists_mem_of_ne_nil _ ha
      obtain ⟨y, hy⟩ := List.exists_mem_of_ne_nil _ hb
      have hx := List.mem_filter.1 hx
      have hy := List.mem_filter.1 hy
      have := eqv_trans h (eqv_symm hx.2) hy.2
      rw [eqv_iff] at this
      rw [hab x hx.1 y hy.1] at this
      simp at this
theorem Srt_append {a b : List α} : Srt lt (a ++ b) ↔ Srt lt a ∧ Srt lt b ∧ ∀ x ∈ a, ∀ y ∈ b, lt y x = false := List.pairwise_append
theorem Srt_nil : Srt lt ([] : List α) := List.Pairwise.nil
theorem Srt_one (x : α) : Srt lt [x] := List.pairwise_singleton _ _
theorem srt_uniq (h : Swo lt) : ∀ {xs ys : List α}, Srt lt xs → Srt lt ys → Stb lt xs ys → xs = ys
  | [], ys, _, _, hs => (List.length_eq_zero_iff.1 hs.1.symm).symm
  | x :: xs, [], _, _, hs => by have := hs.1; simp at this
  | x :: xs, y :: ys, hx, hy, hs => by
    have hx' := List.pairwise_cons.1 hx
    have hy' := List.pairwise_cons.1 hy
    have e : eqv lt x y = true := by
      rw [eqv_iff]
      constructor
      · have : x ∈ y :: ys := (hs.mem h).1 (List.mem_cons_self ..)
        rcases List.mem_cons.1 this with rfl | hm
        · exact h.irr _
        · exact hy'.1 x hm
      · have : y ∈ x :: xs := (hs.mem h).2 (List.mem_cons_self ..)
        rcases List.mem_cons.1 this with rfl | hm
        · exact h.irr _
        · exact hx'.1 y hm
    have h0 := hs.2 x
    rw [List.filter_cons_of_pos (eqv_self h x), List.filter_cons_of_pos e] at h0
    have hxy : x = y := (List.cons.inj h0).1
    subst hxy
    congr 1
    refine srt_uniq h hx'.2 hy'.2 ⟨by have := hs.1; simpa using this, fun z => ?_⟩
    have hz := hs.2 z
    by_cases hzx : eqv lt z x = true
    · rw [List.filter_cons_of_pos hzx, List.filter_cons_of_pos hzx] at hz
      exact (List.cons.inj hz).2
    · rw [List.filter_cons_of_neg hzx, List.filter_cons_of_neg hzx] at hz
      exact hz
theorem ltS_cons (a b : UInt8) (s t : List UInt8) : ltS (a :: s) (b :: t) = (decide (a < b) || (a == b && ltS s t)) := rfl
theorem ltS_irr : ∀ s : List UInt8, ltS s s = false
  | [] => rfl
  | a :: s => by
    rw [ltS_cons, ltS_irr s]
    have : ¬ a < a := fun h => by have := UInt8.lt_iff_toNat_lt.1 h; omega
    simp [this]
theorem ltS_trans : ∀ (s t u : List UInt8), ltS s t = true → ltS t u = true → ltS s u = true
  | [], [], _, h, _ => by simp [ltS, Op.bytesLess] at h
  | [], _ :: _, [], _, h => by simp [ltS, Op.bytesLess] at h
  | [], _ :: _, _ :: _, _, _ => rfl
  | _ :: _, [], _, h, _ => by simp [ltS, Op.bytesLess] at h
  | _ :: _, _ :: _, [], _, h => by simp [ltS, Op.bytesLess] at h
  | a :: s, b :: t, c :: u, h1, h2 => by
    rw [ltS_cons] at *
    simp only [Bool.or_eq_true, decide_eq_true_eq, Bool.and_eq_true, beq_iff_eq] at *
    rcases h1 with h1 | ⟨rfl, h1⟩
    · rcases h2 with h2 | ⟨rfl, h2⟩
      · left
        have := UInt8.lt_iff_toNat_lt.1 h1
        have := UInt8.lt_iff_toNat_lt.1 h2
        exact UInt8.lt_iff_toNat_lt.2 (by omega)
      · exact .inl h1
    · rcases h2 with h2 | ⟨rfl, h2⟩
      · exact .inl h2
      · exact .inr ⟨rfl, ltS_trans s t u h1 h2⟩
theorem ltS_tot : ∀ (s t : List UInt8), ltS s t = true ∨ s = t ∨ ltS t s = true
  | [], [] => .inr (.inl rfl)
  | [], _ :: _ => .inl rfl
  | _ :: _, [] => .inr (.inr rfl)
  | a :: s, b :: t => by
    rw [ltS_cons, ltS_cons]
    simp only [Bool.or_eq_true, decide_eq_true_eq, Bool.and_eq_true, beq_iff_eq]
    rcases Nat.lt_trichotomy a.toNat b.toNat with h | h | h
    · exact .inl (.inl (UInt8.lt_iff_toNat_lt.2 h))
    · have e : a = b := UInt8.toNat_inj.1 h
      subst e
      rcases ltS_tot s t with h1 | h1 | h1
      · exact .inl (.inr ⟨rfl, h1⟩)
      · exact .inr (.inl (by rw [h1]))
      · exact .inr (.inr (.inr ⟨rfl, h1⟩))
    · exact .inr (.inr (.inl (UInt8.lt_iff_toNat_lt.2 h)))
theorem swo_key {β : Type} (k : β → List UInt8) : Swo fun a b => ltS (k a) (k b) :=
  ⟨fun a => ltS_irr _, fun a b c => ltS_trans _ _ _, fun a b c h => by
    rcases ltS_tot (k a) (k b) with h1 | h1 | h1
    · exact .inl h1
    · right; rw [← h1]; exact h
    · exact .inr (ltS_trans _ _ _ h1 h)⟩
theorem swpL_next (d : α) (u : List α) (p q : α) (v : List α) : swpL d (u ++ p :: q :: v) (u.length + 1) u.length = u ++ q :: p :: v := by
  unfold swpL
  have h1 : (u ++ p :: q :: v).getD u.length d = p := by simp [List.getD]
  have h2 : (u ++ p :: q :: v).getD (u.length + 1) d = q := by simp [List.getD]
  rw [h1, h2, List.set_append, if_neg (by omega), show u.length + 1 - u.length = 1 by omega, List.set_append, if_neg (by omega), Nat.sub_self]
  rfl
theorem swpL_next' (d : α) (u : List α) (p q : α) (v : List α) : swpL d (u ++ p :: q :: v) u.length (u.length + 1) = u ++ q :: p :: v := by
  unfold swpL
  have h1 : (u ++ p :: q :: v).getD u.length d = p := by simp [List.getD]
  have h2 : (u ++ p :: q :: v).getD (u.length + 1) d = q := by simp [List.getD]
  rw [h1, h2, List.set_append, if_neg (by omega), Nat.sub_self, List.set_append, if_neg (by omega), show u.length + 1 - u.length = 1 by omega]
  rfl
theorem gt_app (d : α) (u : List α) (p : α) (v : List α) {i : Int} (hi : i = (u.length : Int)) : gt d (u ++ p :: v) i = p := by
  subst hi; simp [gt, List.getD]
theorem inB_app (u : List α) (p : α) (v : List α) {i : Int} (hi : i = (u.length : Int)) : inB i (u ++ p :: v) = true := by
  subst hi; exact inB_lt (by simp)
theorem atB_app (u : List α) (p : α) (v : List α) {i : Int} (hi : i = (u.length : Int)) : atB i (u ++ p :: v) i = true := by
  have h := inB_app u p v hi
  unfold atB idxIs
  rw [show idxOk i (u ++ p :: v).length = true from h, Nat.beq_refl]
  rfl
theorem gt_nat (d : α) (xs : List α) (n : Nat) : gt d xs (n : Int) = xs.getD n d := by simp [gt]
theorem getD_mid (d : α) (u r s : List α) {q : Nat} (h : q < r.length) : (u ++ r ++ s).getD (u.length + q) d = r.getD q d := by
  rw [List.getD, List.getD, List.append_assoc, List.getElem?_append_right (by omega), Nat.add_sub_cancel_left, List.getElem?_append_left h]
theorem inB_nat {xs : List α} {n : Nat} (h : n < xs.length) : inB (n : Int) xs = true := inB_lt h
theorem srt_getD (hw : Swo lt) (d : α) {r : List α} (hs : Srt lt r) {q' q : Nat} (h1 : q' ≤ q) (h2 : q < r.length) : lt (r.getD q d) (r.getD q' d) = false := by
  rcases Nat.lt_or_ge q' q with h | h
  · have := List.pairwise_iff_getElem.1 hs q' q (by omega) h2 h
    rw [List.getD, List.getD, List.getElem?_eq_getElem h2, List.getElem?_eq_getElem (by omega)]
    exact this
  · have : q' = q := by omega
    subst this
    exact hw.irr _
theorem mem_takeD (d : α) {r : List α} {n : Nat} {y : α} (h : y ∈ r.take n) : ∃ q, q < n ∧ q < r.length ∧ y = r.getD q d := by
  obtain ⟨q, hq, e⟩ := List.getElem_of_mem h
  rw [List.length_take] at hq
  refine ⟨q, by omega, by omega, ?_⟩
  rw [← e, List.getElem_take, List.getD, List.getElem?_eq_getElem (by omega)]
  rfl
theorem mem_dropD (d : α) {r : List α} {n : Nat} {y : α} (h : y ∈ r.drop n) : ∃ q, n ≤ q ∧ q < r.length ∧ y = r.getD q d := by
  obtain ⟨q, hq, e⟩ := List.getElem_of_mem h
  rw [List.length_drop] at hq
  refine ⟨n + q, by omega, by omega, ?_⟩
  rw [← e, List.getElem_drop, List.getD, List.getElem?_eq_getElem (by omega)]
  rfl
theorem snoc_of {a : List α} (h : a ≠ []) : ∃ b x, a = b ++ [x] := ⟨a.dropLast, a.getLast h, (List.dropLast_concat_getLast h).symm⟩
end
end Go.Av
namespace Go.Av
theorem half_in {i j : Nat} (h : i + j ≤ 4398046511104) : cvtW .i64 (shrW .u64 (cvtW .u64 (addW .i64 (i : Int) (j : Int))) 1) = (((i + j) / 2 : Nat) : Int) := by
  have e1 : addW .i64 (i : Int) (j : Int) = ((i + j : Nat) : Int) := by rw [addW_in (by omega) (by omega)]; omega
  have e2 : cvtW .u64 ((i + j : Nat) : Int) = ((i + j : Nat) : Int) := IntWalk.u64_in _ (by omega)
  rw [e1, e2]
  have e3 : shrW .u64 ((i + j : Nat) : Int) 1 = (((i + j) / 2 : Nat) : Int) := by
    unfold shrW
    have h2 : (2 : Int) ^ min (1 : Int).toNat IntKind.u64.bits = 2 := by decide
    rw [h2, Int.fdiv_eq_ediv_of_nonneg _ (by decide)]
    omega
  rw [e3]
  exact IntWalk.i64_in _ (by omega)
theorem bsearch {X Y : Type} (step : X → Option (Sum X Y)) (S : Nat → Nat → X) (z : Nat → Y) (f : Nat → Bool) (lo0 hi0 : Nat) (mono : ∀ h h', lo0 ≤ h' → h' ≤ h → h < hi0 → f h = true → f h' = true)
    (hs : ∀ lo hi, lo0 ≤ lo → lo < hi → hi ≤ hi0 → step (S lo hi) = some (.inl (bif f ((lo + hi) / 2) then S ((lo + hi) / 2 + 1) hi else S lo ((lo + hi) / 2)))) (he : ∀ k, lo0 ≤ k → k ≤ hi0 → step (S k k) = some (.inr (z k))) :
    ∀ (n lo hi : Nat), hi - lo = n → lo0 ≤ lo → lo ≤ hi → hi ≤ hi0 → (∀ h, lo0 ≤ h → h < lo → f h = true) → (∀ h, hi ≤ h → h < hi0 → f h = false) →
      ∃ k, lo0 ≤ k ∧ k ≤ hi0 ∧ (∀ h, lo0 ≤ h → h < k → f h = true) ∧ (∀ h, k ≤ h → h < hi0 → f h = false) ∧ loopF step (S lo hi) = some (z k) := by
  intro n
  induction n using Nat.strongRecOn with
  | _ n ih =>
  intro lo hi hn h1 h2 h3 h4 h5
  by_cases h : lo = hi
  · subst h
    exact ⟨lo, h1, h3, h4, h5, loopF_end _ (he lo h1 h3)⟩
  · have hlt : lo < hi := by omega
    have hst := hs lo hi h1 hlt h3
    cases hf : f ((lo + hi) / 2) with
    | true =>
      rw [hf] at hst
      obtain ⟨k, k1, k2, k3, k4, k5⟩ := ih (hi - ((lo + hi) / 2 + 1)) (by omega) ((lo + hi) / 2 + 1) hi rfl (by omega) (by omega) h3 (fun q q1 q2 => mono _ q q1 (by omega) (by omega) hf) h5
      exact ⟨k, k1, k2, k3, k4, loopF_step _ hst k5⟩
    | false =>
      rw [hf] at hst
      obtain ⟨k, k1, k2, k3, k4, k5⟩ := ih ((lo + hi) / 2 - lo) (by omega) lo ((lo + hi) / 2) rfl h1 (by omega) (by omega) h4 (fun q q1 q2 => by
        cases hq : f q with
        | false => rfl
        | true =>
          have := mono q ((lo + hi) / 2) (by omega) q1 q2 hq
          rw [hf] at this
          simp at this)
      exact ⟨k, k1, k2, k3, k4, loopF_step _ hst k5⟩
end Go.Av
