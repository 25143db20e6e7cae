/- Part of a proof that the law FnExactMore answers true for every input: the framework, an evaluator over symbolic data and why it is right. No conditions beyond the statement. -/
import Derived.Test.YthppnigdofgojaaGreatFw3
import Derived.IntWalk
import Derived.ChangeArms
import Derived.SizedLaws
import Derived.Carry
import Derived.HandedShaped
import Derived.ProofKit
/- A drawn region in which some quiet operations may come before or behind a store, third part: the evaluator. -/
namespace Go.Av
open Go.RowKit (Below)

/-- Temporary t is no late operation's, but one of 'nd'. -/
def keepL (l : List Oper) (J : List Nat) (nd : Nat) (t : Nat) : Bool := J.all fun j => nd.testBit j || (match dstOf l j with | some d => !Nat.beq d t | none => true)
def opK (l : List Oper) (J : List Nat) : Operand → Bool
  | .tmp t => keepL l J 0 t
  | _ => true
def sameAV : AV → TV → Bool
  | .ptr r j, .v (.ptr r' j') => Nat.beq r r' && Nat.beq j j'
  | .ref r j s, .v (.ref r' j' s') => Nat.beq r r' && (Nat.beq j j' && Nat.beq s s')
  | _, _ => false
theorem sameAV_eq {b : AV} {tv : TV} (h : sameAV b tv = true) : tv = .v b := by
  unfold sameAV at h
  split at h
  · simp only [Bool.and_eq_true] at h
    rw [beq_eq h.1, beq_eq h.2]
  · simp only [Bool.and_eq_true] at h
    rw [beq_eq h.1, beq_eq h.2.1, beq_eq h.2.2]
  · simp at h
def isRetB (tv : TV) : Tr (TV × Option Rt) → Bool
  | .ret (.v b, none) => sameAV b tv
  | _ => false
def aloneD (l : List Oper) (i j d : Nat) : Bool := (List.range i).all fun k => Nat.beq k j || (match dstOf l k with | some d' => !Nat.beq d' d | none => true)
/-- A late operation yields behind the store what it yields before it. -/
def lateOne (E : En) (l : List Oper) (ns : List Nat) (i : Nat) (J : List Nat) (st v st1 : St) (j : Nat) : Bool := match l[j]? with
  | some o => (match o.dst with
    | some d => newTm st d && st1.free d && aloneD l i j d && (match look v.tm d with
      | some tv => isRetB tv (qop E ⟨v.tm.filter (fun p => keepL l J (ns.getD j 0) p.1), st1.rt⟩ d o.op)
      | none => false)
    | none => false)
  | none => false
def noRoot (v : St) (l : List Oper) : Bool := l.all fun o => match o.dst with | some d => v.free d | none => true
def lateT (E : En) (ops : Array Oper) (i : Nat) (J : List Nat) (st : St) : Tr St :=
  bif edgesOk ops.toList 0 && (!hasGuard ops.toList && (!hasGuard (ops.toList.take i) && (Nat.blt i ops.toList.length && ((List.range i).all (fun j => memN J j || ((needs ops.toList []).getD i 0).testBit j) && (List.range (ops.toList.length - i - 1)).all (fun k => (List.range (i + 1)).all fun j => ((needs ops.toList []).getD (i + 1 + k) 0).testBit j))))) then
    (regT E true (ops.toList.take i) (needs ops.toList [] ++ [0]) (ops.toList.take i) 0 st []).bind fun v => match ops.toList[i]? with
      | some o => (match o.op, o.dst with
        | .store t a x, none => bif opK ops.toList J a && (opK ops.toList J x && noRoot v (ops.toList.take i)) then
          (wop E v none (.store t a x)).bind fun st1 => bif J.all (lateOne E ops.toList (needs ops.toList []) i J st v st1) then regT E true ops.toList (needs ops.toList []) (ops.toList.drop (i + 1)) (i + 1) st1 [] else .fail
          else .fail
        | _, _ => .fail)
      | none => .fail
  else .fail

def opsOf (c : Code) : Array Oper := match c with | .region _ ops _ => ops | _ => #[]
theorem wop_store_tm {E : En} {v st1 : St} {t : Nat} {a x : Operand} {tm : List (Nat × TV)} (h : (wop E v none (.store t a x)).run = some st1) (ha : (v.withTm tm).get a = v.get a) (hx : (v.withTm tm).get x = v.get x) : (wop E (v.withTm tm) none (.store t a x)).run = some (st1.withTm tm) := by
  unfold wop at h ⊢
  obtain ⟨ti, h1, h⟩ := Tr.run_ofO h
  obtain ⟨ta, h2, h⟩ := Tr.run_ofO h
  obtain ⟨av, h3, h⟩ := Tr.run_ofO h
  obtain ⟨tx, h4, h⟩ := Tr.run_ofO h
  obtain ⟨p, h5, h⟩ := Tr.run_ofO h
  have hl : (v.withTm tm).live = v.live := funext fun a => live_withTm a
  simp only [ha, hx, h1, h2, h3, h4, h5, Tr.ofO, hl]
  cases hb : p.2.all v.live && Nat.beq p.2.length ti.ks.length with
  | false => rw [hb] at h; simp [Tr.run] at h
  | true =>
    rw [hb] at h
    simp only [cond_true] at h ⊢
    obtain ⟨s1, h6, h⟩ := Tr.run_ofO h
    simp only [Tr.run, Option.some.injEq] at h
    subst h
    rw [store_withTm, h6]
    rfl

theorem view_rt0 {base : St} {S : Nat} : ∀ {bs : Bd}, (∀ i t p, (i, t, p) ∈ bs → p.2 = none) → (view base S bs).rt = base.rt
  | [], _ => rfl
  | (i, t, p) :: r, h => by
    have ih := view_rt0 (base := base) (S := S) (bs := r) fun i t p hm => h i t p (List.mem_cons_of_mem _ hm)
    have hp := h i t p (List.mem_cons_self ..)
    unfold view
    cases S.testBit i with
    | false => exact ih
    | true =>
      simp only [cond_true]
      unfold St.bindT
      rw [hp]
      exact ih
theorem viewAll_rt0 {base : St} {bs : Bd} (h : ∀ i t p, (i, t, p) ∈ bs → p.2 = none) : (viewAll base bs).rt = base.rt := by
  rw [viewAll_eq base (bitsOf bs) bs (fun i t p h => bitsOf_mem h)]
  exact view_rt0 h
theorem tv_noMay {st : St} (h : NoMay st) (t : Nat) : st.tv t = look st.tm t := by
  unfold St.tv
  split
  · rename_i q want y gg l hq
    exact absurd trivial (h t _ hq)
  · rfl
theorem look_filterK (f : Nat → Bool) : ∀ (l : List (Nat × TV)) (t : Nat), look (l.filter fun p => f p.1) t = if f t then look l t else none
  | [], t => by simp [look]
  | (m, x) :: r, t => by
    rw [List.filter_cons]
    have ih := look_filterK f r t
    cases hm : f m with
    | true =>
      simp only [if_true]
      rw [look_cons, look_cons]
      by_cases e : m = t
      · subst e; simp [hm]
      · rw [if_neg e, if_neg e, ih]
    | false =>
      simp only [Bool.false_eq_true, if_false]
      rw [ih, look_cons]
      by_cases e : m = t
      · subst e; simp [hm]
      · rw [if_neg e]
theorem memN_mem : ∀ {l : List Nat} {n : Nat}, memN l n = true → n ∈ l
  | [], n, h => by simp [memN] at h
  | x :: r, n, h => by
    simp only [memN, Bool.or_eq_true] at h
    rcases h with h | h
    · rw [beq_eq h]; exact List.mem_cons_self ..
    · exact List.mem_cons_of_mem _ (memN_mem h)
theorem noGuard {l : List Oper} (h : hasGuard l = false) {i : Nat} {o : Oper} (ho : l[i]? = some o) : o.guard = none := by
  unfold hasGuard at h
  rw [List.any_eq_false] at h
  have := h o (List.mem_of_getElem? ho)
  cases hg : o.guard with
  | none => rfl
  | some g => rw [hg] at this; simp at this

section
variable {P : Program} {E : En}

theorem wpOp_same {ops ops' : Array Oper} {Q : Exit → Act → World → Prop} {j : Nat} {o : Oper} (h : ops[j]? = some o) (h' : ops'[j]? = some o) (hg : o.guard = none) {K : Act → World → Prop} {a : Act} {w : World} (hw : wpOp P ops' Q j K a w) : wpOp P ops Q j K a w := by
  unfold wpOp at hw ⊢
  have e : ∀ (ops : Array Oper), Region.wanted o (yielded ops a.tmps) = true := fun ops => by simp [Region.wanted, hg]
  simp only [h, h', e] at hw ⊢
  exact hw

theorem late_sem (hT : TTok P E) (hga : GAok P E) (hm : P.follows .mixedOrders = true) {id : Nat} {ops : Array Oper} {i : Nat} {J : List Nat} : RegSem P E (.region id ops true) (lateT E ops i J) := by
  intro cx a w st st' h hrun
  have hW : WSound P E := wsound hT hga
  unfold lateT at hrun
  generalize hc : (edgesOk ops.toList 0 && (!hasGuard ops.toList && (!hasGuard (ops.toList.take i) && (Nat.blt i ops.toList.length && ((List.range i).all (fun j => memN J j || ((needs ops.toList []).getD i 0).testBit j) && (List.range (ops.toList.length - i - 1)).all (fun k => (List.range (i + 1)).all fun j => ((needs ops.toList []).getD (i + 1 + k) 0).testBit j)))))) = c at hrun
  cases c with
  | false => simp [Tr.run] at hrun
  | true =>
  simp only [cond_true] at hrun
  simp only [Bool.and_eq_true, Bool.not_eq_true', List.all_eq_true, List.mem_range, Bool.or_eq_true] at hc
  obtain ⟨hed, hng, hng', hilt, hpre, hpost⟩ := hc
  have hi : i < ops.size := by
    have := Nat.lt_of_succ_le (Nat.le_of_ble_eq_true hilt)
    simpa using this
  rw [Tr.run_bind] at hrun
  cases hv : (regT E true (ops.toList.take i) (needs ops.toList [] ++ [0]) (ops.toList.take i) 0 st []).run with
  | none => rw [hv] at hrun; simp at hrun
  | some v =>
  rw [hv] at hrun
  simp only [Option.bind_some] at hrun
  split at hrun
  rotate_left
  · simp [Tr.run] at hrun
  rename_i o ho
  split at hrun
  rotate_left
  · simp [Tr.run] at hrun
  rename_i t xa xx hop hdst
  generalize hc : (opK ops.toList J xa && (opK ops.toList J xx && noRoot v (ops.toList.take i))) = c at hrun
  cases c with
  | false => simp [Tr.run] at hrun
  | true =>
  simp only [cond_true] at hrun
  simp only [Bool.and_eq_true] at hc
  obtain ⟨hka, hkx, hnr⟩ := hc
  rw [Tr.run_bind] at hrun
  cases hst1 : (wop E v none (.store t xa xx)).run with
  | none => rw [hst1] at hrun; simp at hrun
  | some st1 =>
  rw [hst1] at hrun
  simp only [Option.bind_some] at hrun
  generalize hc : J.all (lateOne E ops.toList (needs ops.toList []) i J st v st1) = c at hrun
  cases c with
  | false => simp [Tr.run] at hrun
  | true =>
  simp only [cond_true] at hrun
  have hlate1 := List.all_eq_true.1 hc
  obtain ⟨hn, hsz, Z, g, hr⟩ := h
  have hlen : (needs ops.toList []).length = ops.size := by rw [needs_len]; simp
  have hopst : (ops.toList.take i).toArray.toList = ops.toList.take i := by simp
  have hsize' : (ops.toList.take i).toArray.size = i := by simp; omega
  have hops' : ∀ j, j < i → (ops.toList.take i).toArray[j]? = ops[j]? := fun j hj => by
    rw [← Array.getElem?_toList, hopst, List.getElem?_take, if_pos hj, Array.getElem?_toList]
  rw [Array.getElem?_toList] at ho
  -- the first part
  have hseg := regT_seg (P := P) (E := E) (ops := (ops.toList.take i).toArray) (ns := needs ops.toList [] ++ [0]) (i0 := 0) hT hga (dr := true) hn (ops.toList.take i) 0 (by simp) (Nat.zero_le _) (Nat.le_refl _) [] v ⟨trivial, hn.MB, fun e he => by simp at he, fun _ _ _ _ he => by simp at he⟩ (by rw [hopst]; exact hv)
  obtain ⟨i1, bsF, k1, k2, k3, k4, k5, k6, k7, k8⟩ := hseg
  replace k5 := k5 (by rw [hopst]; exact hng')
  have hk8 : i1 = i ∧ v = viewAll st bsF := by
    rcases k8 with ⟨e1, e2⟩ | ⟨o', st'', e1, _, e3, _⟩
    · rw [hopst, hng'] at e2
      exact ⟨e1.trans hsize', e2⟩
    · exfalso
      have hi1 : i1 < i := by
        have := (Array.getElem?_eq_some_iff.1 e1).1
        rw [hsize'] at this
        exact this
      have hf := e3 rfl
      unfold fence at hf
      simp only [Bool.and_eq_true, List.all_eq_true, List.mem_range] at hf
      have := hf.2 (ops.size - i1 - 1) (by rw [List.length_append, hlen]; simp; omega)
      rw [show i1 + 1 + (ops.size - i1 - 1) = (needs ops.toList []).length by rw [hlen]; omega] at this
      simp [List.getD] at this
  obtain ⟨e1, rfl⟩ := hk8
  subst e1
  have hidx : ∀ e ∈ bsF, e.1 < i1 := fun e he => (k4 e he).2.1
  have hidxD : ∀ e ∈ bsF, dstOf ops.toList e.1 = some e.2.1 := fun e he => by
    obtain ⟨_, h2, o', h3, h4⟩ := k4 e he
    rw [hops' _ h2] at h3
    unfold dstOf
    rw [Array.getElem?_toList, h3]
    exact h4
  have hroot : ∀ i' t p, (i', t, p) ∈ bsF → p.2 = none := fun i' t' p hp => by
    cases hp2 : p.2 with
    | none => rfl
    | some R =>
      exfalso
      obtain ⟨_, h2, o', h3, h4⟩ := k4 _ hp
      have hmem : o' ∈ ops.toList.take i1 := by
        rw [← hopst, Array.mem_toList_iff]
        exact Array.mem_of_getElem? h3
      have := List.all_eq_true.1 hnr o' hmem
      rw [h4] at this
      simp only [St.free] at this
      have hl : look (viewAll st bsF).rt t' = some R := by
        rw [viewAll_eq st (bitsOf bsF) bsF (fun i t p h => bitsOf_mem h), view_rt _ k2]
        exact .inl ⟨i', p, hp, bitsOf_mem hp, hp2⟩
      rw [hl] at this
      simp at this
  have hNV : ∀ S, NoMay (view st S bsF) := fun S t tv ht => by
    rw [view_tm _ k2] at ht
    rcases ht with ⟨i', p, h1, _, rfl⟩ | h1
    · exact k5 i' t p h1
    · exact hn t tv h1
  have hNA : NoMay (viewAll st bsF) := fun t tv ht => by
    rw [viewAll_tm k2] at ht
    rcases ht with ⟨i', p, h1, rfl⟩ | h1
    · exact k5 i' t p h1
    · exact hn t tv h1
  have hvw : ∀ S, view st S bsF = (viewAll st bsF).withTm (view st S bsF).tm := fun S => by
    unfold St.withTm
    rw [viewAll_rt0 hroot, ← view_rt0 (S := S) hroot]
  have hself : ∀ (s : St), s.withTm s.tm = s := fun s => rfl
  have hst1' : st1 = st1.withTm (viewAll st bsF).tm := by
    have := wop_store_tm (tm := (viewAll st bsF).tm) hst1 rfl rfl
    rw [hself, hst1] at this
    exact Option.some.inj this
  -- what is known of a temporary
  have hlook : ∀ S nd t, (∀ j, j < i1 → memN J j = false → S.testBit j = true) → (∀ b, nd.testBit b = true → b < i1 → S.testBit b = true) → keepL ops.toList J nd t = true → look (view st S bsF).tm t = look (viewAll st bsF).tm t := fun S nd t hS hnd hk => by
    apply Option.ext
    intro tv
    show look _ t = some tv ↔ look _ t = some tv
    rw [view_tm _ k2, viewAll_tm k2]
    constructor
    · rintro (⟨i', p, h1, _, h3⟩ | h1)
      · exact .inl ⟨i', p, h1, h3⟩
      · exact .inr h1
    · rintro (⟨i', p, h1, h3⟩ | h1)
      · refine .inl ⟨i', p, h1, ?_, h3⟩
        have hi' := hidx _ h1
        cases hJ : memN J i' with
        | false => exact hS i' hi' hJ
        | true =>
          have := List.all_eq_true.1 hk i' (memN_mem hJ)
          rw [hidxD _ h1] at this
          simp only [Bool.or_eq_true, Bool.not_eq_true'] at this
          rcases this with h | h
          · exact hnd i' h hi'
          · exact absurd rfl (Nat.ne_of_beq_eq_false h)
      · exact .inr h1
  have hget : ∀ S (x : Operand), (∀ j, j < i1 → memN J j = false → S.testBit j = true) → opK ops.toList J x = true → ((viewAll st bsF).withTm (view st S bsF).tm).get x = (viewAll st bsF).get x := fun S x hS hk => by
    rw [← hvw]
    cases x with
    | tmp t =>
      show (view st S bsF).tv t = (viewAll st bsF).tv t
      rw [tv_noMay (hNV S), tv_noMay hNA]
      exact hlook S 0 t hS (fun b hb => by simp at hb) hk
    | _ => rfl
  have hnm1 : ∀ S, NoMay (st1.withTm (view st S bsF).tm) := fun S t tv ht => hNV S t tv ht
  -- all orders
  refine wp_region_any hm ?_
  have hshift : ∀ x, (needs ops.toList [] ++ [0]).getD x allBits = (needs ops.toList [] ++ [0]).getD x allBits := fun _ => rfl
  refine reg_late (P := P) (E := E) (cx := cx) (Q := QO cx E (.nrm st')) (i := i1) (J := memN J) (base := st) (bsF := bsF) (G := fun S => st1.withTm (view st S bsF).tm) hed hi ?_ ?_ ?_ ?_ ?_ ?_ ops.size (Array.replicate ops.size false) 0 false a _ Z g (by simp) (fun k hk => ?_) (fun k _ => Nat.zero_testBit k) ?_ (fun k hk => ?_) (fun hh => by simp at hh) ?_ hsz
  · -- before the store
    intro j hj cx S a w Z g next Q hS hSj hr hsz hnext
    have ho' : ∃ o', ops[j]? = some o' := ⟨ops[j]'(by omega), by simp⟩
    obtain ⟨o', ho'⟩ := ho'
    refine wpOp_same ho' (by rw [hops' j hj]; exact ho') (noGuard hng (by rw [Array.getElem?_toList]; exact ho')) ?_
    refine k7 j (Nat.zero_le _) hj cx S a w Z g next Q (fun k h1 h2 h3 => hS k h1 h2 ?_) hSj hr hsz hnext
    have hjl : j < (needs ops.toList []).length := by rw [hlen]; omega
    rw [List.getD, List.getElem?_append_left hjl] at h3
    exact h3
  · intro j hj hJ
    rcases hpre j hj with h | h
    · rw [hJ] at h; simp at h
    · exact h
  · intro k hik hk j hj
    have := hpost (k - i1 - 1) (by simp; omega) j (by omega)
    rw [show i1 + 1 + (k - i1 - 1) = k by omega] at this
    exact this
  · -- the store
    intro S a w Z g next hS hhi hr hsz hnext
    have hSt : (wop E (view st S bsF) none (.store t xa xx)).run = some (st1.withTm (view st S bsF).tm) := by
      have := wop_store_tm (tm := (view st S bsF).tm) hst1 (hget S xa hS hka) (hget S xx hS hkx)
      rw [← hvw] at this
      exact this
    refine wpOp_wop ho (noGuard hng (by rw [Array.getElem?_toList]; exact ho)) ?_
    obtain ⟨_, hw'⟩ := hW cx Z g _ a w o _ hr (hNV S) hsz (by rw [hdst]; rfl) (by rw [hdst, hop]; exact hSt)
    exact hw' _ _ hnext
  · -- a late one
    intro S j a w Z g next hS hhi hj hJ hSj hnd hr hsz hnext
    have hl := hlate1 j (memN_mem hJ)
    unfold lateOne at hl
    split at hl
    rotate_left
    · simp at hl
    rename_i o' ho'
    rw [Array.getElem?_toList] at ho'
    split at hl
    rotate_left
    · simp at hl
    rename_i d hd
    simp only [Bool.and_eq_true] at hl
    obtain ⟨⟨⟨l1, l2⟩, l3⟩, l4⟩ := hl
    split at l4
    rotate_left
    · simp at l4
    rename_i tv htv
    have hent : ∃ p, (j, d, p) ∈ bsF ∧ p.1 = tv := by
      rw [viewAll_tm k2] at htv
      rcases htv with ⟨i', p, h1, h3⟩ | h1
      · have hi' := hidx _ h1
        have := List.all_eq_true.1 l3 i' (List.mem_range.2 hi')
        rw [hidxD _ h1] at this
        simp only [Bool.or_eq_true, Bool.not_eq_true'] at this
        rcases this with h | h
        · rw [beq_eq h] at h1; exact ⟨p, h1, h3⟩
        · exact absurd rfl (Nat.ne_of_beq_eq_false h)
      · unfold newTm at l1
        rw [h1] at l1
        simp at l1
    obtain ⟨p, hp, hpt⟩ := hent
    have hp2 := hroot _ _ _ hp
    unfold isRetB at l4
    split at l4
    rotate_left
    · simp at l4
    rename_i b hq
    have hb := sameAV_eq l4
    have hdn : Dst cx a d := hsz.dst (k2.mem hp).1
    have hfree : (st1.withTm (view st S bsF).tm).free d = true := l2
    have hext : Ext ⟨(viewAll st bsF).tm.filter (fun p => keepL ops.toList J ((needs ops.toList []).getD j 0) p.1), st1.rt⟩ (st1.withTm (view st S bsF).tm) := by
      refine ⟨fun t' tv' ht' => ?_, fun r R hR => hR⟩
      have ht' : look ((viewAll st bsF).tm.filter (fun p => keepL ops.toList J ((needs ops.toList []).getD j 0) p.1)) t' = some tv' := ht'
      rw [look_filterK] at ht'
      split at ht'
      · rename_i hk
        show look (view st S bsF).tm t' = some tv'
        rw [hlook S _ t' hS hnd hk]
        exact ht'
      · simp at ht'
    unfold wpOp
    have hwant : Region.wanted o' (yielded ops a.tmps) = true := by simp [Region.wanted, noGuard hng (by rw [Array.getElem?_toList]; exact ho')]
    simp only [ho', hwant, if_true]
    refine .inl ?_
    refine qop_sound hT hga hext hr (hnm1 S).cons hd hdn hfree (p := (.v b, none)) (by rw [hq]; rfl) _ _ fun Z' g' v' w' hr' => hnext Z' g' _ w' ?_ (hsz.put _ _)
    refine hr'.swap (fun r => rfl) fun t' tv' ht' => ?_
    have key : look ((st1.withTm (view st S bsF).tm).bindT d (.v b, none)).tm t' = some tv' := by
      rw [bindT_tm]
      have ht' : look (view st (S ||| 2 ^ j) bsF).tm t' = some tv' := ht'
      rw [view_tm _ k2] at ht'
      have old : ¬ d = t' → (∃ i p, (i, t', p) ∈ bsF ∧ S.testBit i = true ∧ p.1 = tv') ∨ look st.tm t' = some tv' → (if d = t' then some (TV.v b) else look (st1.withTm (view st S bsF).tm).tm t') = some tv' := fun hdt hh => by
        rw [if_neg hdt]
        exact (view_tm _ k2 _ _).2 hh
      rcases ht' with ⟨i', p', h1, h2, h3⟩ | h1
      · by_cases hij : j = i'
        · obtain ⟨_, e2, e3⟩ := k2.uniq hp h1 (.inl hij)
          subst e2
          subst e3
          rw [if_pos rfl, ← hb, ← hpt, h3]
        · refine old (fun e => hij (k2.uniq hp h1 (.inr e)).1) (.inl ⟨i', p', h1, ?_, h3⟩)
          rw [testBit_or_pow] at h2
          simpa [hij] using h2
      · exact old (fun e => by subst e; rw [(k2.mem hp).2.1] at h1; simp at h1) (.inr h1)
    exact hr'.tm t' tv' key
  · -- behind
    intro fuel listed S a w Z g hls hl hfuel hS hr hsz
    have hS' : view st S bsF = viewAll st bsF := (viewAll_of fun e he => by rw [hS]; simpa using hidx e he).symm
    have hr : Rel cx Z g st1 a w := by
      rw [hst1']
      have hr : Rel cx Z g (st1.withTm (view st S bsF).tm) a w := hr
      rw [hS'] at hr
      exact hr
    have hn1 : NoMay st1 := by
      rw [hst1']
      exact fun t tv ht => hNA t tv ht
    obtain ⟨i2, bs2, m1, m2, m3, m4, m5, m6, m7, m8⟩ := regT_seg (ops := ops) (ns := needs ops.toList []) (i0 := i1 + 1) hT hga hn1 _ (i1 + 1) rfl hi (Nat.le_refl _) [] st' ⟨trivial, hn1.MB, fun e he => by simp at he, fun _ _ _ _ he => by simp at he⟩ hrun
    refine reg_any (cx := cx) (Q := QO cx E (.nrm st')) hT hga hW hed (stF := st') (fun Z g a w hr hn hs => ⟨hn, hs, Z, g, hr⟩) fuel listed (2 ^ (i1 + 1) - 1) (i1 + 1) i2 st1 bs2 a w Z g hls (fun k hk => ?_) hfuel (fun k hk => by rw [low_bits]; simpa using hk) (fun k hk => by rw [low_bits]; simp; omega) (fun k hk b hb => ?_) m1 hn1 m2 (fun e he => ⟨(m4 e he).1, (m4 e he).2.1⟩) m5 m7 m8 ?_ hsz
    · rw [hl k hk, low_bits]
      by_cases hh : k ≤ i1
      · simp [hh]; omega
      · simp [hh]; omega
    · rw [low_bits] at hk ⊢
      simp only [decide_eq_true_eq] at hk ⊢
      have hbk : b < k := by
        revert b
        induction k using Nat.strongRecOn with
        | _ k ihk =>
          intro b hb
          have hks : k < ops.size := by omega
          obtain ⟨e, h1, h2, h3⟩ := needs_bit ops.toList [] k ops[k] b (by rw [Array.getElem?_toList]; simp [hks]) (by simpa using hb)
          have hon := edgesOk_spec ops.toList 0 hed k ops[k] (by rw [Array.getElem?_toList]; simp [hks]) e h1 h2
          rw [Nat.zero_add] at hon
          rcases h3 with h3 | ⟨_, h3⟩
          · omega
          · have := ihk e.on hon (by omega) b h3
            omega
      omega
    · rw [view_none fun e he => by rw [low_bits]; have := (m4 e he).1; simp; omega]
      exact hr
  · simp [Array.getD_eq_getD_getElem?, hk]
  · simp only [cond_false, Nat.or_zero]
    rw [cnt_zero]
    exact Nat.le_refl _
  · simp at hk
  · simp only [cond_false]
    rw [view_none fun e _ => Nat.zero_testBit _]
    exact hr.world rfl rfl rfl rfl
theorem late_of (hT : TTok P E) (hga : GAok P E) (hm : P.follows .mixedOrders = true) {c : Code} {id : Nat} {i : Nat} {J : List Nat} (h : c = .region id (opsOf c) true) : RegSem P E c (lateT E (opsOf c) i J) := by
  intro cx a w st st' hg hr
  rw [h]
  exact late_sem hT hga hm cx a w st st' hg hr
theorem regSem_rg {E0 : En} {c : Code} {F : St → Tr St} (hn : E.nt = E0.nt) (hp : E.pins = E0.pins) (h : RegSem P E0 c F) : RegSem P E c F := by
  have hf : ∀ (cx : Cx) (a : Act), Fit cx E a ↔ Fit cx E0 a := fun cx a => by unfold Fit; rw [hn, hp]
  have hg : ∀ (cx : Cx) (st : St) (a : Act) (w : World), Good cx E st a w ↔ Good cx E0 st a w := fun cx st a w => by unfold Good; rw [hf]
  intro cx a w st st' hgd hr
  refine wp_mono (h cx a w st st' ((hg _ _ _ _).1 hgd) hr) fun e a' w' hq => ?_
  cases e <;> first | exact hq.elim | exact (hg _ _ _ _).2 hq
end
end Go.Av

/- Plain laws of the printed functions' parts: loops over lists, indices, sizes. -/
namespace Go.Av

/-! ### loops over lists -/
section
variable {α A X Y : Type}
def goL (f : Nat → α → A → Sum A Y) (z : A → Y) : Nat → List α → A → Y
  | _, [], a => z a
  | i, x :: r, a => match f i x a with
    | .inl a' => goL f z (i + 1) r a'
    | .inr y => y
theorem loop_list_from {step : X → Option (Sum X Y)} (xs : List α) (S : Nat → A → X) (f : Nat → α → A → Sum A Y) (z : A → Y) (I : Nat → A → Prop)
    (hs : ∀ i x a, xs[i]? = some x → I i a → step (S i a) = some (match f i x a with | .inl a' => .inl (S (i + 1) a') | .inr y => .inr y))
    (hI : ∀ i x a a', xs[i]? = some x → I i a → f i x a = .inl a' → I (i + 1) a')
    (he : ∀ a, I xs.length a → step (S xs.length a) = some (.inr (z a))) :
    ∀ (ys : List α) (i : Nat) (a : A), i + ys.length = xs.length → ys = xs.drop i → I i a → loopF step (S i a) = some (goL f z i ys a)
  | [], i, a, hl, hy, h => by
    have : i = xs.length := by simpa using hl
    subst this
    exact loopF_end step (he a h)
  | x :: r, i, a, hl, hy, h => by
    have hx : xs[i]? = some x := by
      have := congrArg (·[0]?) hy
      simp only [List.getElem?_cons_zero, List.getElem?_drop, Nat.add_zero] at this
      exact this.symm
    have hr : r = xs.drop (i + 1) := by
      have := congrArg List.tail hy
      simpa using this
    have hst := hs i x a hx h
    cases hf : f i x a with
    | inl a' =>
      rw [hf] at hst
      refine loopF_step step hst ?_
      rw [goL, hf]
      exact loop_list_from xs S f z I hs hI he r (i + 1) a' (by simp only [List.length_cons] at hl; omega) hr (hI i x a a' hx h hf)
    | inr y =>
      rw [hf] at hst
      rw [goL, hf]
      exact loopF_end step hst
/-- A loop over a list's indices. -/
theorem loop_inv {step : X → Option (Sum X Y)} (xs : List α) (S : Nat → A → X) (f : Nat → α → A → Sum A Y) (z : A → Y) (I : Nat → A → Prop) {a0 : A} (h0 : I 0 a0)
    (hs : ∀ i x a, xs[i]? = some x → I i a → step (S i a) = some (match f i x a with | .inl a' => .inl (S (i + 1) a') | .inr y => .inr y))
    (hI : ∀ i x a a', xs[i]? = some x → I i a → f i x a = .inl a' → I (i + 1) a')
    (he : ∀ a, I xs.length a → step (S xs.length a) = some (.inr (z a))) : loopF step (S 0 a0) = some (goL f z 0 xs a0) :=
  loop_list_from xs S f z I hs hI he xs 0 a0 (by simp) (by simp) h0
theorem loop_list {step : X → Option (Sum X Y)} (xs : List α) (S : Nat → A → X) (f : Nat → α → A → Sum A Y) (z : A → Y) {a0 : A}
    (hs : ∀ i x a, xs[i]? = some x → step (S i a) = some (match f i x a with | .inl a' => .inl (S (i + 1) a') | .inr y => .inr y))
    (he : ∀ a, step (S xs.length a) = some (.inr (z a))) : loopF step (S 0 a0) = some (goL f z 0 xs a0) :=
  loop_inv xs S f z (fun _ _ => True) trivial (fun i x a h _ => hs i x a h) (fun _ _ _ _ _ _ _ => trivial) fun a _ => he a
/-- A loop that does not leave early: what holds at its head holds at its end. -/
theorem loop_post {step : X → Option (Sum X Y)} (xs : List α) (S : Nat → A → X) (z : A → Y) (I : Nat → A → Prop)
    (hs : ∀ i x a, xs[i]? = some x → I i a → ∃ a', step (S i a) = some (.inl (S (i + 1) a')) ∧ I (i + 1) a')
    (he : ∀ a, I xs.length a → step (S xs.length a) = some (.inr (z a))) : ∀ (n k : Nat) (a : A), k + n = xs.length → I k a → ∃ a', I xs.length a' ∧ loopF step (S k a) = some (z a')
  | 0, k, a, hk, h => by
    rw [Nat.add_zero] at hk
    subst hk
    exact ⟨a, h, loopF_end step (he a h)⟩
  | n + 1, k, a, hk, h => by
    have hx : xs[k]? = some (xs[k]'(by omega)) := List.getElem?_eq_getElem (by omega)
    obtain ⟨a1, h1, h2⟩ := hs k _ a hx h
    obtain ⟨a', h3, h4⟩ := loop_post xs S z I hs he n (k + 1) a1 (by omega) h2
    exact ⟨a', h3, loopF_step step h1 h4⟩
/-- All elements pass, or the answer is 'y'. -/
theorem goL_all (p : α → Bool) (y : Y) (z : Unit → Y) : ∀ (xs : List α) (i : Nat), goL (fun _ x _ => bif p x then .inl () else .inr y) z i xs () = bif xs.all p then z () else y
  | [], _ => rfl
  | x :: r, i => by
    rw [goL, List.all_cons]
    cases hp : p x with
    | true => simp only [cond_true, Bool.true_and]; exact goL_all p y z r (i + 1)
    | false => rfl
/-- All elements pass, each with its index. -/
def allI (p : Nat → α → Bool) : Nat → List α → Bool
  | _, [] => true
  | i, x :: r => p i x && allI p (i + 1) r
theorem goL_allI (p : Nat → α → Bool) (y : Y) (z : Unit → Y) : ∀ (xs : List α) (i : Nat), goL (fun i x _ => bif p i x then .inl () else .inr y) z i xs () = bif allI p i xs then z () else y
  | [], _ => rfl
  | x :: r, i => by
    rw [goL, allI]
    cases hp : p i x with
    | true => simp only [cond_true, Bool.true_and]; exact goL_allI p y z r (i + 1)
    | false => rfl
theorem allI_get (p : Nat → α → Bool) : ∀ {xs : List α} {k : Nat}, allI p k xs = true → ∀ {i : Nat} {x : α}, xs[i]? = some x → p (k + i) x = true
  | [], k, _, i, x, hx => by simp at hx
  | y :: r, k, h, i, x, hx => by
    simp only [allI, Bool.and_eq_true] at h
    cases i with
    | zero => simp only [List.getElem?_cons_zero, Option.some.injEq] at hx; subst hx; exact h.1
    | succ i =>
      have := allI_get p h.2 (i := i) (x := x) (by simpa using hx)
      rwa [show k + 1 + i = k + (i + 1) by omega] at this
theorem allI_congr {p q : Nat → α → Bool} : ∀ {xs : List α} {k : Nat}, (∀ i x, xs[i]? = some x → p (k + i) x = q (k + i) x) → allI p k xs = allI q k xs
  | [], _, _ => rfl
  | y :: r, k, h => by
    have ih : allI p (k + 1) r = allI q (k + 1) r := allI_congr fun i x hx => by
      have := h (i + 1) x (by simpa using hx)
      rwa [show k + (i + 1) = k + 1 + i by omega] at this
    have h0 := h 0 y rfl
    rw [Nat.add_zero] at h0
    rw [allI, allI, ih, h0]
theorem goL_fold (f : α → A → A) (z : A → Y) : ∀ (xs : List α) (i : Nat) (a : A), goL (fun _ x a => .inl (f x a)) z i xs a = z (xs.foldl (fun a x => f x a) a)
  | [], _, _ => rfl
  | x :: r, i, a => by rw [goL, List.foldl_cons]; exact goL_fold f z r (i + 1) _
theorem goL_congr {f f' : Nat → α → A → Sum A Y} {z : A → Y} : ∀ (xs : List α) (i : Nat) (a : A), (∀ j x a, xs[j]? = some x → f (i + j) x a = f' (i + j) x a) → goL f z i xs a = goL f' z i xs a
  | [], _, _, _ => rfl
  | x :: r, i, a, h => by
    have h0 := h 0 x a rfl
    rw [Nat.add_zero] at h0
    rw [goL, goL, h0]
    cases f' i x a with
    | inl a' => exact goL_congr r (i + 1) a' fun j y b hy => by have := h (j + 1) y b hy; rw [show i + (j + 1) = i + 1 + j by omega] at this; exact this
    | inr y => rfl
end

/-! ### sizes and indices -/
/-- Not longer than any machine's slice. -/
def Sm {α : Type} (xs : List α) : Prop := xs.length ≤ 1048576
section
variable {α : Type}
theorem addW1 {i : Nat} (h : i ≤ big) : addW .i64 (i : Int) 1 = ((i + 1 : Nat) : Int) := by
  unfold addW
  rw [IntWalk.i64_in _ (by have : big = 140737488355328 := rfl; omega)]
  omega
theorem addW_in {a b : Int} (h1 : -4611686018427387904 ≤ a + b) (h2 : a + b ≤ 4611686018427387904) : addW .i64 a b = a + b := by
  unfold addW; rw [IntWalk.i64_in _ (by omega)]
theorem subW_in {a b : Int} (h1 : -4611686018427387904 ≤ a - b) (h2 : a - b ≤ 4611686018427387904) : subW .i64 a b = a - b := by
  unfold subW; rw [IntWalk.i64_in _ (by omega)]
theorem lt_of_get {xs : List α} {i : Nat} {x : α} (h : xs[i]? = some x) : i < xs.length := (List.getElem?_eq_some_iff.1 h).1
theorem ltI_in {xs : List α} {i : Nat} {x : α} (h : xs[i]? = some x) : ltI (i : Int) (lenI xs) = true := by
  have := lt_of_get h
  unfold ltI lenI; exact decide_eq_true (by omega)
theorem ltI_out {xs : List α} {n : Nat} (h : xs.length = n) : ltI (n : Int) (lenI xs) = false := by
  unfold ltI lenI; exact decide_eq_false (by omega)
theorem ltI_no {a b : Int} (h : ¬ a < b) : ltI a b = false := decide_eq_false h
theorem ltI_yes {a b : Int} (h : a < b) : ltI a b = true := decide_eq_true h
theorem inB_in {xs : List α} {i : Nat} {x : α} (h : xs[i]? = some x) : inB (i : Int) xs = true := by
  have := lt_of_get h
  unfold inB idxOk leI ltI; rw [decide_eq_true (by omega), decide_eq_true (by omega)]; rfl
theorem inB_lt {xs : List α} {i : Nat} (h : i < xs.length) : inB (i : Int) xs = true := by
  unfold inB idxOk leI ltI; rw [decide_eq_true (by omega), decide_eq_true (by omega)]; rfl
theorem gt_in {xs : List α} {i : Nat} {x : α} (d : α) (h : xs[i]? = some x) : gt d xs (i : Int) = x := by
  simp [gt, List.getD, h]
theorem bytI_in {xs : List UInt8} {i : Nat} {x : UInt8} (h : xs[i]? = some x) : bytI xs (i : Int) = (x.toNat : Int) := by
  simp [bytI, bytAt, List.getD, h]
theorem eqI_refl (n : Int) : eqI n n = true := by simp [eqI]
theorem eqS_refl (s : List UInt8) : eqS s s = true := by simp [eqS]
theorem mkB_in {xs : List α} {b : Nat} (hb : 0 < b) (h : xs.length * b ≤ big) : mkB b (lenI xs) = true := by
  have h1 : ((xs.length : Int) * (b : Int)) ≤ (big : Int) := by exact_mod_cast h
  unfold mkB lenI leI
  rw [decide_eq_true (Int.natCast_nonneg _), decide_eq_true h1]
  exact Nat.ble_eq_true_of_le hb
theorem repI_len {β : Type} {xs : List α} (d : β) : repI d (lenI xs) = List.replicate xs.length d := by simp [repI, lenI]
theorem gt_mid (d : α) {done : List α} {y : α} {r : List α} {i : Nat} (h : done.length = i) : gt d (done ++ y :: r) (i : Int) = y := by
  subst h; simp [gt, List.getD]
theorem stI_mid {done : List α} {x y : α} {r : List α} {i : Nat} (h : done.length = i) : stI (done ++ x :: r) (i : Int) y = done ++ y :: r := by
  subst h; simp [stI, List.set_append]
theorem inB_mid {done : List α} {y : α} {r : List α} {i : Nat} (h : done.length = i) : inB (i : Int) (done ++ y :: r) = true := by
  apply inB_lt; simp; omega
theorem ltI_mid {done : List α} {y : α} {r : List α} {i : Nat} (h : done.length = i) : ltI (i : Int) (lenI (done ++ y :: r)) = true := by
  unfold ltI lenI; exact decide_eq_true (by simp only [List.length_append, List.length_cons]; omega)
theorem drop_get {xs : List α} {i : Nat} {x : α} (h : xs[i]? = some x) : xs.drop i = x :: xs.drop (i + 1) := by
  have hl := lt_of_get h
  rw [List.drop_eq_getElem_cons hl]
  congr 1
  rw [List.getElem?_eq_getElem hl] at h
  exact Option.some.inj h
end

/-! ### what a value's copy counts -/
def szR (left : Int) (n : Nat) : Int := if (n : Int) ≤ left then left - n else -1
theorem szR_pos {left : Int} {n : Nat} (h : (n : Int) ≤ left) : szR left n = left - n := if_pos h
theorem szR_neg {left : Int} {n : Nat} (h : ¬ (n : Int) ≤ left) : szR left n = -1 := if_neg h
theorem szR_lt {left : Int} {n : Nat} (h0 : 0 ≤ left) : ltI (szR left n) 0 = !decide ((n : Int) ≤ left) := by
  unfold szR ltI
  split
  · rename_i h; rw [decide_eq_true h]; exact decide_eq_false (by omega)
  · rename_i h; rw [decide_eq_false h]; rfl
theorem szR_len {α : Type} {left : Int} {s : List α} (h0 : 0 ≤ left) (h1 : left ≤ 1048576) (hs : s.length ≤ big) : subW .i64 left (lenI s) = left - (s.length : Int) := by
  have : big = 140737488355328 := rfl
  exact subW_in (by unfold lenI; omega) (by unfold lenI; omega)
/-- A list's size: its length, and its elements'. -/
def wL {α : Type} (w : α → Nat) (xs : List α) : Nat := xs.length + (xs.map w).sum
def cL {α : Type} (c : α → Nat) (xs : List α) : Nat := (xs.map c).sum
theorem goL_sz {α Y : Type} (w : α → Nat) (y : Y) (z : Int → Y) : ∀ (xs : List α) (i : Nat) (a : Int), 0 ≤ a → goL (fun _ x (a : Int) => bif decide ((w x : Int) ≤ a) then Sum.inl (a - w x) else .inr y) z i xs a = if ((cL w xs : Nat) : Int) ≤ a then z (a - (cL w xs : Nat)) else y
  | [], _, a, h => by simp [goL, cL, h]
  | x :: r, i, a, h => by
    rw [goL]
    by_cases hx : (w x : Int) ≤ a
    · simp only [hx, decide_true, cond_true]
      rw [goL_sz w y z r (i + 1) (a - w x) (by omega)]
      have e : ((cL w (x :: r) : Nat) : Int) = w x + (cL w r : Nat) := by simp [cL]
      rw [e]
      by_cases h2 : ((cL w r : Nat) : Int) ≤ a - w x
      · rw [if_pos h2, if_pos (by omega)]; congr 1; omega
      · rw [if_neg h2, if_neg (by omega)]
    · simp only [hx, decide_false, cond_false]
      rw [if_neg]
      have e : ((cL w (x :: r) : Nat) : Int) = w x + (cL w r : Nat) := by simp [cL]
      rw [e]; omega
theorem cL_drop {α : Type} (c : α → Nat) {xs : List α} {i : Nat} {x : α} (h : xs[i]? = some x) : cL c (xs.drop i) = c x + cL c (xs.drop (i + 1)) := by
  rw [drop_get h]; simp [cL]
theorem cL_mem {α : Type} (c : α → Nat) : ∀ {xs : List α} {i : Nat} {x : α}, xs[i]? = some x → c x ≤ cL c xs
  | [], i, x, h => by simp at h
  | y :: r, 0, x, h => by simp at h; subst h; simp [cL]
  | y :: r, i + 1, x, h => by
    have := cL_mem c (xs := r) (i := i) (x := x) (by simpa using h)
    simp only [cL, List.map_cons, List.sum_cons] at this ⊢
    omega
theorem cL_le {α : Type} {c w : α → Nat} (h : ∀ x, c x ≤ 100 * (w x + 1)) : ∀ (xs : List α), cL c xs ≤ 100 * wL w xs
  | [] => by simp [cL]
  | x :: r => by
    have h1 := h x
    have h2 := cL_le h r
    simp only [cL, wL, List.map_cons, List.sum_cons, List.length_cons] at h2 ⊢
    omega
theorem cL_filter {α : Type} (c : α → Nat) (p : α → Bool) : ∀ (xs : List α), cL c (xs.filter p) ≤ cL c xs
  | [] => Nat.le_refl _
  | x :: r => by
    have ih := cL_filter c p r
    rw [List.filter_cons]
    simp only [cL, List.map_cons, List.sum_cons] at ih ⊢
    split
    · simp only [List.map_cons, List.sum_cons]; omega
    · omega
theorem cL_set {α : Type} (c : α → Nat) (y : α) : ∀ (xs : List α) (i : Nat) (x : α), xs[i]? = some x → c y = c x → cL c (xs.set i y) = cL c xs
  | [], i, x, h, _ => by simp at h
  | z :: r, 0, x, h, hc => by
    simp only [List.getElem?_cons_zero, Option.some.injEq] at h
    subst h
    simp [cL, hc]
  | z :: r, i + 1, x, h, hc => by
    have := cL_set c y r i x (by simpa using h) hc
    simp only [cL, List.set_cons_succ, List.map_cons, List.sum_cons] at this ⊢
    omega
theorem wL_filter {α : Type} (w : α → Nat) (p : α → Bool) (xs : List α) : wL w (xs.filter p) ≤ wL w xs :=
  Nat.add_le_add (List.length_filter_le _ _) (cL_filter w p xs)
theorem wL_stI {α : Type} (w : α → Nat) {xs : List α} {k : Int} {y : α} (d : α) (hk : inB k xs = true) (hw : w y = w (gt d xs k)) : wL w (stI xs k y) = wL w xs := by
  have h0 : 0 ≤ k ∧ k < xs.length := by
    unfold inB idxOk leI ltI at hk
    simpa using hk
  have hx : xs[k.toNat]? = some (gt d xs k) := by
    unfold gt
    rw [List.getD_eq_getElem?_getD, List.getElem?_eq_getElem (by omega)]; rfl
  have h1 : (stI xs k y).length = xs.length := by simp [stI]
  have h2 := cL_set w y xs k.toNat _ hx hw
  show (stI xs k y).length + cL w (xs.set k.toNat y) = xs.length + cL w xs
  rw [h1, h2]
theorem len_le_wL {α : Type} (w : α → Nat) (xs : List α) : xs.length ≤ wL w xs := Nat.le_add_right _ _
theorem mem_le_wL {α : Type} (w : α → Nat) {xs : List α} {y : α} (h : y ∈ xs) : w y ≤ wL w xs := by
  obtain ⟨i, hi⟩ := List.getElem?_of_mem h
  exact Nat.le_trans (cL_mem w hi) (Nat.le_add_left _ _)
/-- Marks, one after the other. -/
def mkL {α : Type} (m : α → Int → α) (c : α → Nat) : List α → Int → List α
  | [], _ => []
  | x :: r, k => m x k :: mkL m c r (k + c x)
theorem goL_mk {α Y : Type} (m : α → Int → α) (c : α → Nat) (z : List α × Int → Y) : ∀ (xs : List α) (i : Nat) (d : List α) (k : Int), goL (fun _ x (a : List α × Int) => Sum.inl (a.1 ++ [m x a.2], a.2 + c x)) z i xs (d, k) = z (d ++ mkL m c xs k, k + (cL c xs : Nat))
  | [], _, d, k => by simp [goL, mkL, cL]
  | x :: r, i, d, k => by
    rw [goL]
    simp only
    rw [goL_mk m c z r (i + 1)]
    congr 1
    have e : ((cL c (x :: r) : Nat) : Int) = c x + (cL c r : Nat) := by simp [cL]
    rw [e]
    simp only [mkL, List.append_assoc, List.singleton_append, Prod.mk.injEq, true_and]
    omega
theorem mkL_len {α : Type} (m : α → Int → α) (c : α → Nat) : ∀ (xs : List α) (k : Int), (mkL m c xs k).length = xs.length
  | [], _ => rfl
  | x :: r, k => by simp [mkL, mkL_len m c r]
theorem mkL_get {α : Type} (m : α → Int → α) (c : α → Nat) : ∀ (xs : List α) (k : Int) (i : Nat) (y : α), (mkL m c xs k)[i]? = some y → ∃ x, xs[i]? = some x ∧ y = m x (k + (cL c (xs.take i) : Nat))
  | [], k, i, y, h => by simp [mkL] at h
  | x :: r, k, 0, y, h => by
    simp only [mkL, List.getElem?_cons_zero, Option.some.injEq] at h
    exact ⟨x, rfl, by simp [cL, ← h]⟩
  | x :: r, k, i + 1, y, h => by
    simp only [mkL, List.getElem?_cons_succ] at h
    obtain ⟨x', h1, h2⟩ := mkL_get m c r _ i y h
    refine ⟨x', by simpa using h1, ?_⟩
    rw [h2]
    congr 1
    simp [cL]; omega
theorem mkL_getx {α : Type} (m : α → Int → α) (c : α → Nat) : ∀ (xs : List α) (k : Int) (i : Nat) (x : α), xs[i]? = some x → (mkL m c xs k)[i]? = some (m x (k + (cL c (xs.take i) : Nat)))
  | [], k, i, x, h => by simp at h
  | y :: r, k, 0, x, h => by
    simp only [List.getElem?_cons_zero, Option.some.injEq] at h
    subst h
    simp [mkL, cL]
  | y :: r, k, i + 1, x, h => by
    simp only [List.getElem?_cons_succ] at h
    have := mkL_getx m c r (k + c y) i x h
    simp only [mkL, List.getElem?_cons_succ, this, Option.some.injEq]
    congr 1
    simp [cL]; omega
theorem goL_cnt {α Y : Type} (c : α → Nat) (z : Int → Y) : ∀ (xs : List α) (i : Nat) (k : Int), goL (fun _ x (a : Int) => Sum.inl (a + (c x : Nat))) z i xs k = z (k + (cL c xs : Nat))
  | [], _, k => by simp [goL, cL]
  | x :: r, i, k => by
    rw [goL]
    simp only
    rw [goL_cnt c z r (i + 1)]
    congr 1
    simp [cL]; omega
theorem cL_take {α : Type} (c : α → Nat) {xs : List α} {i : Nat} {x : α} (h : xs[i]? = some x) : cL c (xs.take (i + 1)) = cL c (xs.take i) + c x := by
  rw [List.take_add_one, h]; simp [cL]
theorem cL_split {α : Type} (c : α → Nat) (xs : List α) (i : Nat) : cL c xs = cL c (xs.take i) + cL c (xs.drop i) := by
  have : xs = xs.take i ++ xs.drop i := (List.take_append_drop i xs).symm
  conv => lhs; rw [this]
  simp only [cL, List.map_append, List.sum_append]
theorem cL_take_all {α : Type} (c : α → Nat) (xs : List α) : cL c (xs.take xs.length) = cL c xs := by rw [List.take_length]
theorem cL_one {α : Type} (xs : List α) : cL (fun _ => 1) xs = xs.length := by
  induction xs with
  | nil => rfl
  | cons x r ih => simp only [cL, List.map_cons, List.sum_cons, List.length_cons] at ih ⊢; omega
theorem goL_cp {α Y : Type} (z : List α → Y) : ∀ (xs : List α) (i : Nat) (d : List α), goL (fun _ x (a : List α) => Sum.inl (a ++ [x])) z i xs d = z (d ++ xs)
  | [], _, d => by simp [goL]
  | x :: r, i, d => by rw [goL]; simp only; rw [goL_cp z r (i + 1)]; simp
end Go.Av

/- From a statement's reading of the arguments to the evaluator's, and back. -/
namespace Go.Av
open Go.RowKit (Below)

/-! ### nothing is larger than a machine's memory -/
mutual
def BgK : (k : K) → T k → Prop
  | .int _, _ => True
  | .bool, _ => True
  | .str, s => List.length (α := UInt8) s ≤ big
  | .sl e ks, xs => (els (e := e) (ks := ks) xs).length ≤ big ∧ ∀ y ∈ els (e := e) (ks := ks) xs, BgL ks y
def BgL : (ks : List K) → Tl ks → Prop
  | [], _ => True
  | k :: ks, x => BgK k x.1 ∧ BgL ks x.2
end

/-! ### which types are read: by the table -/
def flB (E : En) (rd : Nat → Bool) : List (Nat × Nat) → List K → Nat → Bool
  | [], [], _ => true
  | (o, u) :: r, ks, off => Nat.beq o off && (rd u && match E.ti u with
    | some tu => K.sames (ks.take tu.ks.length) tu.ks && (Nat.ble tu.ks.length ks.length && flB E rd r (ks.drop tu.ks.length) (off + tu.ks.length))
    | none => false)
  | _, _, _ => false
def rdB (E : En) : Nat → Nat → Bool
  | 0, _ => false
  | n + 1, t => match E.ti t with
    | some ti => (match ti.agg with
      | true => flB E (rdB E n) ti.flds ti.ks 0
      | false => (match ti.ks with
        | [.sl e ks] => (match E.ti e with | some te => K.sames ks te.ks && (Nat.blt 0 te.bytes && (Nat.blt 0 te.ks.length && rdB E n e)) | none => false)
        | _ => true))
    | none => false

section
variable {H : Type} {enc : TypeId × Value → H} {P : Program} {w : World} {spare : Nat → Bool} {held : Bool} {E : En}

theorem ROl_cells (w : World) : ∀ (ks : List K) (x : Tl ks) (cs : List Value) (b o : Nat), ROs (Zall w) w ks x cs → (∀ j v, cs[j]? = some v → w.cell? ⟨b, o + j, none⟩ = some v) → ROl (Zall w) w ks x b o
  | [], _, _, _, _, _, _ => trivial
  | k :: ks, x, [], b, o, h, _ => h.elim
  | k :: ks, x, v :: vs, b, o, h, hc => ⟨⟨v, hc 0 v rfl, h.1⟩, ROl_cells w ks x.2 vs b (o + 1) h.2 fun j u hu => by have := hc (j + 1) u (by simpa using hu); rwa [show o + 1 + j = o + (j + 1) by omega]⟩
theorem ROs_len (w : World) {Z : Nat → Prop} : ∀ (ks : List K) (x : Tl ks) (cs : List Value), ROs Z w ks x cs → cs.length = ks.length
  | [], _, [], _ => rfl
  | [], _, _ :: _, h => h.elim
  | k :: ks, x, [], h => h.elim
  | k :: ks, x, v :: vs, h => by rw [List.length_cons, List.length_cons, ROs_len w ks x.2 vs h.2]
theorem ROs_app (w : World) {Z : Nat → Prop} : ∀ (a b : List K) (cs cs' : List Value) (x : Tl a) (y : Tl b), ROs Z w a x cs → BgL a x → ROs Z w b y cs' → BgL b y → ∃ z : Tl (a ++ b), ROs Z w (a ++ b) z (cs ++ cs') ∧ BgL (a ++ b) z
  | [], b, [], cs', _, y, _, _, h, hb => ⟨y, h, hb⟩
  | [], b, _ :: _, cs', _, y, h, _, _, _ => h.elim
  | k :: a, b, [], cs', x, y, h, _, _, _ => h.elim
  | k :: a, b, v :: vs, cs', x, y, h, hx, h', hb => by
    obtain ⟨z, h1, h2⟩ := ROs_app w a b vs cs' x.2 y h.2 hx.2 h' hb
    exact ⟨(x.1, z), ⟨h.1, h1⟩, ⟨hx.1, h2⟩⟩
theorem choose_list {α : Type} (p : Nat → α → Prop) : ∀ (n : Nat), (∀ i, i < n → ∃ x, p i x) → ∃ xs : List α, xs.length = n ∧ ∀ i x, xs[i]? = some x → p i x
  | 0, _ => ⟨[], rfl, fun i x h => by simp at h⟩
  | n + 1, h => by
    obtain ⟨xs, h1, h2⟩ := choose_list p n fun i hi => h i (by omega)
    obtain ⟨x, hx⟩ := h n (by omega)
    refine ⟨xs ++ [x], by simp [h1], fun i y hy => ?_⟩
    by_cases hi : i < n
    · rw [List.getElem?_append_left (by omega)] at hy
      exact h2 i y hy
    · rw [List.getElem?_append_right (by omega), h1] at hy
      cases hk : i - n with
      | zero =>
        rw [hk] at hy
        simp only [List.getElem?_cons_zero, Option.some.injEq] at hy
        subst hy
        rwa [show i = n by omega]
      | succ k => rw [hk] at hy; simp at hy
theorem fld_get : ∀ (l : List (Nat × Nat)) (i : Nat), fld l i = l[i]?
  | [], i => by cases i <;> rfl
  | x :: r, 0 => rfl
  | x :: r, i + 1 => by show fld r i = _; rw [fld_get r i]; rfl
theorem cells_get {base : Nat} {a : Addr} {n : Nat} {cs : List Value} (h : w.cells? base a n = some cs) : cs.length = n ∧ ∀ j v, cs[j]? = some v → w.cell? (a.add j) = some v := by
  unfold World.cells? at h
  split at h
  · refine ⟨by simpa using mapM_some_length h, fun j v hj => ?_⟩
    have hjl : j < n := by
      have := (List.getElem?_eq_some_iff.1 hj).1
      have h2 : cs.length = n := by simpa using mapM_some_length h
      omega
    have := mapM_some_get h j j (by simp [hjl])
    rw [this, hj]
  · simp at h
theorem cell_spot {a : Addr} {v : Value} (h : w.cell? a = some v) : a.spot = none ∧ a.block < w.heap.size := by
  unfold World.cell? at h
  split at h
  · rename_i c _ _ hb
    split at h
    · simp at h
    · rename_i hs
      refine ⟨by simpa using hs, ?_⟩
      rcases Nat.lt_or_ge a.block w.heap.size with hh | hh
      · exact hh
      · rw [Array.getElem?_eq_none hh] at hb; simp at hb
  · simp at h

theorem weightsAll_mem {e : TypeId} : ∀ (l : List (DataW H)) {d : DataW H}, d ∈ l → ∀ n ∈ d.weights P e, n ∈ DataW.weightsAll P e l
  | [], _, h, _, _ => by simp at h
  | x :: r, d, h, n, hn => by
    simp only [DataW.weightsAll, List.mem_append]
    rcases List.mem_cons.1 h with h | h
    · subst h; exact .inl hn
    · exact .inr (weightsAll_mem r h n hn)
theorem ROs_joined {ks a : List K} {cs : List Value} {m o : Nat} (hk : ks.take m = a) (hm : a.length = m) {x : Tl a} {y : Tl (ks.drop m)} (x1 : ROs (Zall w) w a x ((cs.drop o).take m)) (x2 : BgL a x) (y1 : ROs (Zall w) w (ks.drop m) y (cs.drop (o + m))) (y2 : BgL (ks.drop m) y) : ∃ z : Tl ks, ROs (Zall w) w ks z (cs.drop o) ∧ BgL ks z := by
  have h := ROs_app w _ _ _ _ x y x1 x2 y1 y2
  have e1 : a ++ ks.drop m = ks := by rw [← hk]; exact List.take_append_drop m ks
  have e2 : (cs.drop o).take m ++ cs.drop (o + m) = cs.drop o := by rw [← List.drop_drop, List.take_append_drop]
  rw [e1, e2] at h
  exact h
theorem trod_RO (hT : TTok P E) : ∀ (n t : Nat) (ti : TI), rdB E n t = true → E.ti t = some ti → ∀ (fuel : Nat) (cs : List Value) (d : DataW H) (ps : List MemPlace), DataW.trod enc P w 0 spare held fuel t cs = some (d, ps) → (∀ m ∈ d.weights P t, m ≤ big) → ∃ x : Tl ti.ks, ROs (Zall w) w ti.ks x cs ∧ BgL ti.ks x := by
  intro n
  induction n with
  | zero => intro t ti h; simp [rdB] at h
  | succ n ih =>
    intro t ti hrd hti fuel cs d ps htr hw
    have hTi := hT t ti hti
    obtain ⟨dd, hu, hdd⟩ := hTi.desc
    unfold rdB at hrd
    rw [hti] at hrd
    simp only at hrd
    obtain ⟨inf, hinf, hsz, _⟩ := hTi.info
    have hcell : P.cellsOf t = ti.ks.length := by simp [Program.cellsOf, hinf, hsz]
    cases dd with
    | bool =>
      obtain ⟨hag, hks⟩ := hdd
      obtain ⟨b, rfl, _⟩ := DataW.trod_bool hu htr
      rw [hks]
      exact ⟨(b, ()), ⟨rfl, trivial⟩, ⟨trivial, trivial⟩⟩
    | int k =>
      obtain ⟨hag, hks⟩ := hdd
      obtain ⟨v, rfl, _, hwf⟩ := DataW.trod_int hu htr
      rw [hks]
      refine ⟨(v, ()), ⟨⟨rfl, ?_⟩, trivial⟩, ⟨trivial, trivial⟩⟩
      simpa [Lit.wf, inR] using hwf
    | string =>
      obtain ⟨hag, hks⟩ := hdd
      obtain ⟨v, rfl, hx, _⟩ := DataW.trod_string hu htr
      simp only [Prod.mk.injEq] at hx
      obtain ⟨rfl, _⟩ := hx
      rw [hks]
      have hl := hw v.data.toList.length (by simp [DataW.weights])
      exact ⟨(v.data.toList, ()), ⟨⟨by simp [mkS], hl⟩, trivial⟩, ⟨hl, trivial⟩⟩
    | slice e =>
      obtain ⟨hag, ks, hks, hel⟩ := hdd
      obtain ⟨ag, kk, el, by', fl⟩ := ti
      simp only at hks hel hag
      subst hks
      subst hel
      subst hag
      simp only at hrd
      cases hte : E.ti el with
      | none => rw [hte] at hrd; simp at hrd
      | some te =>
      rw [hte] at hrd
      simp only [Bool.and_eq_true] at hrd
      obtain ⟨r1, r2, r3, r4⟩ := hrd
      have hkk := K.sames_eq _ _ r1
      subst hkk
      have hby : 0 < te.bytes := Nat.lt_of_succ_le (Nat.le_of_ble_eq_true r2)
      have hkl : 0 < te.ks.length := Nat.lt_of_succ_le (Nat.le_of_ble_eq_true r3)
      obtain ⟨inf2, hinf2, hsz2, hby2, _⟩ := (hT el te hte).info
      have hce : P.cellsOf el = te.ks.length := by simp [Program.cellsOf, hinf2, hsz2]
      have hbe : P.bytesOf el = te.bytes := by simp [Program.bytesOf, hinf2, hby2]
      rcases DataW.trod_slice hu htr with ⟨rfl, _⟩ | ⟨a, len, cap, elems, rest, m, _, rfl, hx, _, hlc, hcm, hlen, hel, _⟩
      · exact ⟨(([] : List (Tl te.ks)), ()), ⟨⟨none, 0, rfl, Nat.le_refl _, Nat.zero_le _, fun _ => rfl, fun h => absurd rfl h⟩, trivial⟩, ⟨⟨Nat.zero_le _, fun y hy => by simp [els] at hy⟩, trivial⟩⟩
      · simp only [Prod.mk.injEq] at hx
        obtain ⟨rfl, _⟩ := hx
        have hwl : (elems.length + rest.length) * te.bytes ≤ big := by
          have := hw ((elems.length + rest.length) * P.bytesOf el) (by simp [DataW.weights, hu])
          rwa [hbe] at this
        have hlb : len ≤ big := by
          have := Nat.le_mul_of_pos_right (elems.length + rest.length) hby
          omega
        rw [hce] at hel
        have hone : ∀ i, i < len → ∃ x : Tl te.ks, (a.spot = none ∨ 0 < i) ∧ (∃ cells, w.cells? 0 (a.add (i * te.ks.length)) te.ks.length = some cells ∧ ROs (Zall w) w te.ks x cells) ∧ BgL te.ks x := fun i hi => by
          have h1 := hel i hi
          have hei : elems[i]? = some (elems[i]'(by omega)) := List.getElem?_eq_getElem (by omega)
          rw [hei] at h1
          obtain ⟨cells, hc1, hc2⟩ := Option.bind_eq_some_iff.1 h1
          obtain ⟨x, hx1, hx2⟩ := ih el te r4 hte m cells _ _ hc2 fun q hq => hw q (by
            simp only [DataW.weights, hu, List.mem_cons, List.mem_append]
            right; left
            exact weightsAll_mem (elems.map (·.1)) (List.mem_map.2 ⟨_, List.getElem_mem (by omega : i < elems.length), rfl⟩) q hq)
          refine ⟨x, ?_, ⟨cells, hc1, hx1⟩, hx2⟩
          rcases Nat.eq_zero_or_pos i with h0 | h0
          · left
            subst h0
            obtain ⟨g1, g2⟩ := cells_get hc1
            obtain ⟨v, hv⟩ : ∃ v, cells[0]? = some v := ⟨cells[0]'(by omega), List.getElem?_eq_getElem (by omega)⟩
            have := g2 0 v hv
            simp [Addr.add] at this
            exact (cell_spot this).1
          · exact .inr h0
        obtain ⟨xs, hxl, hxs⟩ := choose_list _ len hone
        refine ⟨((xs : List (Tl te.ks)), ()), ⟨⟨some a, cap, by show Value.slice (some a) len cap = .slice (some a) xs.length cap; rw [hxl], by show xs.length ≤ cap; omega, by show xs.length ≤ big; omega, fun h => by simp at h, fun hne => ?_⟩, trivial⟩, ⟨⟨by show xs.length ≤ big; omega, fun y hy => ?_⟩, trivial⟩⟩
        · have hpos : 0 < xs.length := List.length_pos_iff.2 hne
          have hx0 := hxs 0 _ (List.getElem?_eq_getElem hpos)
          have hsp : a.spot = none := by
            rcases hx0.1 with h | h
            · exact h
            · omega
          obtain ⟨ab, ao, asp⟩ := a
          simp only at hsp
          subst hsp
          have hadd : ∀ o k, (⟨ab, o, none⟩ : Addr).add k = ⟨ab, o + k, none⟩ := fun o k => by
            unfold Addr.add
            split
            · rename_i h; subst h; rfl
            · rfl
          have hblk : ab < w.heap.size := by
            obtain ⟨_, ⟨cells, hc1, hc2⟩, _⟩ := hx0
            obtain ⟨g1, g2⟩ := cells_get hc1
            obtain ⟨v, hv⟩ : ∃ v, cells[0]? = some v := ⟨cells[0]'(by omega), List.getElem?_eq_getElem (by omega)⟩
            have := g2 0 v hv
            rw [hadd, hadd] at this
            exact (cell_spot this).2
          refine ⟨ab, ao, rfl, hblk, hblk, fun i x hi => ?_⟩
          obtain ⟨_, ⟨cells, hc1, hc2⟩, _⟩ := hxs i x hi
          obtain ⟨g1, g2⟩ := cells_get hc1
          refine ROl_cells w te.ks x cells ab (ao + i * te.ks.length) hc2 fun j v hj => ?_
          have := g2 j v hj
          rw [hadd, hadd] at this
          exact this
        · obtain ⟨i, hi⟩ := List.getElem?_of_mem hy
          exact (hxs i y hi).2.2
    | struct fs =>
      obtain ⟨hag, hfl, _⟩ := hdd
      rw [hag] at hrd
      simp only at hrd
      obtain ⟨xs, m, _, hx, hlen, hxl, hget⟩ := DataW.trod_struct hu htr
      simp only [Prod.mk.injEq] at hx
      obtain ⟨rfl, _⟩ := hx
      rw [hcell] at hlen
      have key : ∀ (l : List (Nat × Nat)) (ks : List K) (off i : Nat), (∀ j, fld l j = fld ti.flds (i + j)) → off + ks.length = ti.ks.length → flB E (rdB E n) l ks off = true → ∃ x : Tl ks, ROs (Zall w) w ks x (cs.drop off) ∧ BgL ks x := by
        intro l
        induction l with
        | nil =>
          intro ks off i hf ho hb
          cases ks with
          | nil =>
            rw [List.drop_of_length_le (by simp at ho; omega)]
            exact ⟨(), trivial, trivial⟩
          | cons k ks => simp [flB] at hb
        | cons p r ihl =>
          intro ks off i hf ho hb
          obtain ⟨o, u⟩ := p
          have hb' : (Nat.beq o off && (rdB E n u && match E.ti u with
            | some tu => K.sames (ks.take tu.ks.length) tu.ks && (Nat.ble tu.ks.length ks.length && flB E (rdB E n) r (ks.drop tu.ks.length) (off + tu.ks.length))
            | none => false)) = true := by
            cases ks <;> exact hb
          simp only [Bool.and_eq_true] at hb'
          obtain ⟨b1, b2, b3⟩ := hb'
          cases htu : E.ti u with
          | none => rw [htu] at b3; simp at b3
          | some tu =>
          rw [htu] at b3
          simp only [Bool.and_eq_true] at b3
          obtain ⟨b3, b4, b5⟩ := b3
          have ho' := beq_eq b1
          subst ho'
          have hks := K.sames_eq _ _ b3
          have hkl : tu.ks.length ≤ ks.length := Nat.le_of_ble_eq_true b4
          have h0 := hf 0
          rw [Nat.add_zero] at h0
          obtain ⟨fi, f1, f2, f3⟩ := hfl i o u h0.symm
          have hg := hget i fi f1
          rw [f2, f3] at hg
          obtain ⟨inu, hinu, hsu, _⟩ := (hT u tu htu).info
          have hcu : P.cellsOf u = tu.ks.length := by simp [Program.cellsOf, hinu, hsu]
          rw [hcu] at hg
          have hil : i < xs.length := by rw [hxl]; exact (Array.getElem?_eq_some_iff.1 f1).1
          rw [List.getElem?_eq_getElem hil] at hg
          obtain ⟨x, x1, x2⟩ := ih u tu b2 htu m _ _ _ hg fun q hq => hw q (by
            simp only [DataW.weights, hu]
            refine DataW.weights_mem_each (j := i) (t := u) (d := xs[i].1) ?_ ?_ q hq
            · rw [List.getElem?_map, Array.getElem?_toList, f1, Option.map_some, f3]
            · rw [List.getElem?_map, List.getElem?_eq_getElem hil]; rfl)
          obtain ⟨y, y1, y2⟩ := ihl (ks.drop tu.ks.length) (o + tu.ks.length) (i + 1) (fun j => by rw [show i + 1 + j = i + (j + 1) by omega, ← hf (j + 1)]; rfl) (by rw [List.length_drop]; omega) b5
          exact ROs_joined hks rfl x1 x2 y1 y2
      obtain ⟨x, x1, x2⟩ := key ti.flds ti.ks 0 0 (fun j => by rw [Nat.zero_add]) (by omega) hrd
      exact ⟨x, x1, x2⟩
    | _ => exact hdd.elim
end
end Go.Av

/- A law's row, out of its function's summary. -/
namespace Go.Av
open Go.RowKit (Below)

def psB (E : En) : List Nat → List PK → Bool
  | [], [] => true
  | t :: ts, .c g ks :: ps => (match E.ti t with | some ti => boolEq g ti.agg && (K.sames ks ti.ks && rdB E 30 t) | none => false) && psB E ts ps
  | _, _ => false
def BgP : (ps : List PK) → PT ps → Prop
  | [], _ => True
  | .c _ ks :: ps, x => BgL ks x.1 ∧ BgP ps x.2
  | .pt _ :: ps, x => BgP ps x.2
  | .nil :: ps, x => BgP ps x
  | .fn _ _ :: ps, x => BgP ps x.2
  | .io _ _ :: ps, x => BgP ps x.2
  | .mv _ :: ps, x => BgP ps x.2

section
variable {H : Type} {enc : TypeId × Value → H} {P : Program} {w : World} {spare : Nat → Bool} {held : Bool} {E : En}

theorem arg_RO (hT : TTok P E) {t : Nat} {ti : TI} (hr : rdB E 30 t = true) (hti : E.ti t = some ti) {base : Nat} {v : Value} (hv : Value.okWide P w .any base t v) {d : DataW H} {p : List MemPlace} (h : DataW.Trod enc P w 0 spare held t v d p) (hw : ∀ m ∈ d.weights P t, m ≤ big) :
    ∃ x : Tl ti.ks, ROv (Zall w) w ti.agg ti.ks x v ∧ BgL ti.ks x := by
  obtain ⟨fuel, h⟩ := h
  obtain ⟨x, h1, h2⟩ := trod_RO hT 30 t ti hr hti fuel _ d p h hw
  refine ⟨x, ⟨v.cells.toList, ?_, h1⟩, h2⟩
  obtain ⟨dd, hu, hdd⟩ := (hT t ti hti).desc
  unfold Value.okWide at hv
  rw [hu] at hv
  cases dd with
  | struct fs =>
    obtain ⟨cs, rfl, _⟩ := hv
    rw [hdd.1]
    show Value.agg cs = .agg cs.toList.toArray
    simp
  | bool =>
    rw [hdd.1]
    unfold Cell.okWide at hv
    rw [hu] at hv
    cases v <;> first | rfl | exact (by simp [Cell.ok, hu] at hv)
  | int k =>
    rw [hdd.1]
    unfold Cell.okWide at hv
    rw [hu] at hv
    cases v <;> first | rfl | exact (by simp [Cell.ok, hu] at hv)
  | string =>
    rw [hdd.1]
    unfold Cell.okWide at hv
    rw [hu] at hv
    cases v <;> first | rfl | exact (by simp [Cell.ok, hu] at hv)
  | slice e =>
    rw [hdd.1]
    unfold Cell.okWide at hv
    rw [hu] at hv
    cases v <;> first | rfl | exact (by simp [Cell.ok, hu] at hv)
  | _ => exact hdd.elim
theorem args_all (hT : TTok P E) {base : Nat} : ∀ (ts : List Nat) (ps : List PK), psB E ts ps = true → ∀ (vs : List Value) (ds : List (DataW H)) (pl : List MemPlace) (n : Nat), DataW.TrodAll enc P w 0 spare held ts vs ds pl → (∀ (j : Nat) t v, ts[j]? = some t → vs[j]? = some v → Value.okWide P w .any base t v) →
      (∀ m ∈ DataW.weightsEach P ts ds, m ≤ big) → ∃ x : PT ps, ArgsR (Zall w) w (fun _ _ => False) ps x vs n ∧ BgP ps x
  | [], [], _, [], [], pl, n, h, hv, hw => ⟨(), trivial, trivial⟩
  | [], [], _, _ :: _, _, pl, n, h, hv, hw => h.elim
  | [], [], _, [], _ :: _, pl, n, h, hv, hw => h.elim
  | t :: ts, .c g ks :: ps, hp, [], ds, pl, n, h, hv, hw => h.elim
  | t :: ts, .c g ks :: ps, hp, _ :: _, [], pl, n, h, hv, hw => h.elim
  | t :: ts, .c g ks :: ps, hp, v :: vs, d :: ds, pl, n, h, hv, hw => by
    obtain ⟨p, q, h1, h2, _⟩ := h
    unfold psB at hp
    simp only [Bool.and_eq_true] at hp
    obtain ⟨hp1, hp2⟩ := hp
    cases hti : E.ti t with
    | none => rw [hti] at hp1; simp at hp1
    | some ti =>
      rw [hti] at hp1
      simp only [Bool.and_eq_true] at hp1
      obtain ⟨b1, b2, b3⟩ := hp1
      have e1 := boolEq_eq b1
      have e2 := K.sames_eq _ _ b2
      subst e1
      subst e2
      obtain ⟨x, x1, x2⟩ := arg_RO hT b3 hti (hv 0 t v rfl rfl) h1 (fun m hm => hw m (by simp only [DataW.weightsEach, List.mem_append]; exact .inl hm))
      obtain ⟨y, y1, y2⟩ := args_all hT ts ps hp2 vs ds q n h2 (fun j t' v' ht hv' => hv (j + 1) t' v' (by simpa using ht) (by simpa using hv')) (fun m hm => hw m (by simp only [DataW.weightsEach, List.mem_append]; exact .inr hm))
      exact ⟨(x, y), ⟨x1, y1⟩, ⟨x2, y2⟩⟩
  | [], .c _ _ :: _, hp, _, _, _, _, _, _, _ => by simp [psB] at hp
  | [], .pt _ :: _, hp, _, _, _, _, _, _, _ => by simp [psB] at hp
  | [], .nil :: _, hp, _, _, _, _, _, _, _ => by simp [psB] at hp
  | [], .fn _ _ :: _, hp, _, _, _, _, _, _, _ => by simp [psB] at hp
  | [], .io _ _ :: _, hp, _, _, _, _, _, _, _ => by simp [psB] at hp
  | [], .mv _ :: _, hp, _, _, _, _, _, _, _ => by simp [psB] at hp
  | _ :: _, [], hp, _, _, _, _, _, _, _ => by simp [psB] at hp
  | _ :: _, .pt _ :: _, hp, _, _, _, _, _, _, _ => by simp [psB] at hp
  | _ :: _, .nil :: _, hp, _, _, _, _, _, _, _ => by simp [psB] at hp
  | _ :: _, .fn _ _ :: _, hp, _, _, _, _, _, _, _ => by simp [psB] at hp
  | _ :: _, .io _ _ :: _, hp, _, _, _, _, _, _, _ => by simp [psB] at hp
  | _ :: _, .mv _ :: _, hp, _, _, _, _, _, _, _ => by simp [psB] at hp

theorem resR_bool {fresh : Bool} {Z : Nat → Prop} {w : World} {H : Nat → Nat → Prop} {b : Bool} : ∀ {vs : List Value}, ResR fresh Z w H [(false, [.bool])] ((b, ()), ()) vs 0 → vs = [.bool b]
  | [], h => h.elim
  | [v], h => by
    obtain ⟨⟨cs, hc, hcells⟩, _⟩ := h
    have hc : cs = [v] := hc
    subst hc
    have hv : v = .bool b := hcells.1
    rw [hv]
  | _ :: _ :: _, h => h.2.elim
/-- The call of a law that answers true. -/
theorem law_calls {f : Nat} {fn : Func} {c : Code} {s : Su} (hsu : SuOK P f s) (hf : P.funcs[f]? = some fn) (hname : (fn.name == "runtime.NumGoroutine") = false) (hb : fn.body = some c)
    {args : Array Value} {x : PT s.ps} (hargs : ArgsR (Zall w) w (fun _ _ => False) s.ps x args.toList 0)
    (hlaw : ∃ y, s.ans x = some y ∧ ∀ (Z : Nat → Prop) (w' : World) (H : Nat → Nat → Prop) (vs : List Value), ResR s.fresh Z w' H s.rs y.2 vs 0 → vs = [.bool true]) :
    Calls P f args w fun e w' => e = .returned (.bool true) ∧ Below w.heap.size w w' := by
  obtain ⟨y, hy, hres⟩ := hlaw
  have h := hsu w (Zall w) (fun _ _ => False) args x y hargs (fun b hb => hb) (fun i b hb => hb.elim) (fun i j b hb => hb.elim) hy
  rw [MuLone.run_callFunc_enter hf hname hb] at h
  have h : Calls P f args w _ := h
  refine h.mono fun e w' he => ?_
  cases e with
  | returned v =>
    obtain ⟨Z', H', vs, rfl, ha, _, hr⟩ := he
    have hvs := hres Z' w' _ vs hr
    subst hvs
    exact ⟨rfl, ha.os, ha.tape, ha.output, ha.size, fun k hk => ha.block k hk fun i hi => hi⟩
  | _ => exact he.elim
theorem Below.trodAll (hl : laidOutB P = true) {W W' : World} (hb : Below W.heap.size W W') : ∀ (ts : List TypeId) (vs : List Value) (ds : List (DataW H)) (ps : List MemPlace), (∀ t ∈ ts, P.readableRec t = true ∧ t < P.types.size) → DataW.TrodAll enc P W 0 (fun _ => true) true ts vs ds ps → (∀ x ∈ ps, x.block < W.heap.size) → DataW.TrodAll enc P W' 0 (fun b => decide (b < W.heap.size)) true ts vs ds ps
  | [], [], [], ps, _, h, _ => h
  | t :: ts, v :: vs, d :: ds, ps, ht, h, hlt => by
    obtain ⟨p, q, h1, h2, rfl⟩ := h
    exact ⟨p, q, Below.trod hl (ht t (List.mem_cons_self ..)).1 (ht t (List.mem_cons_self ..)).2 h1 hb (fun x hx => hlt x (List.mem_append_left _ hx)), Below.trodAll hl hb ts vs ds q (fun t ht' => ht t (List.mem_cons_of_mem _ ht')) h2 (fun x hx => hlt x (List.mem_append_right _ hx)), rfl⟩
  | [], _ :: _, _, _, _, h, _ => h.elim
  | [], [], _ :: _, _, _, h, _ => h.elim
  | _ :: _, [], _, _, _, h, _ => h.elim
  | _ :: _, _ :: _, [], _, _, h, _ => h.elim
/-- What a law's row says behind the call. -/
theorem law_post {fn : Func} {s : ChangeSpec} (hl : laidOutB P = true) (hvars : s.vars = []) {rt : TypeId} (hrt : fn.resultTypes = #[rt]) (hru : P.underlying rt = some .bool) (hpar : ∀ t ∈ fn.params.toList, P.readableRec t = true ∧ t < P.types.size)
    {W W' : World} {args : Array Value} {ds gs : List (DataW H)} {before : List MemPlace} (hW : DataW.Whole enc P fn.params.toList s.vars false W args.toList ds gs before) (hb : Below W.heap.size W W')
    (hs : s.fn H (ds ++ gs) = { results := [.lit (.bool true)], args := ds }) : s.post enc P fn false true false false W args (.bool true) W' := by
  have hlt := hW.lt
  have hW0 := hW
  obtain ⟨p, q, hA, hV, rfl, _, _⟩ := hW
  rw [hvars] at hV
  obtain ⟨rfl, rfl⟩ : gs = [] ∧ q = [] := by
    cases gs with
    | nil => exact ⟨rfl, hV⟩
    | cons _ _ => exact hV.elim
  refine ⟨ds, [], _, [], p, [], hW0, ?_, ?_, ?_, hb.frame _, fun h => by simp at h⟩
  · rw [hs, hrt]
    exact ⟨[], [], Go.RowKit.shut_bool hru true, rfl, rfl⟩
  · rw [hs]
    exact Below.trodAll hl hb _ _ _ _ hpar hA fun x hx => by have := hlt x (List.mem_append_left _ hx); simpa using this
  · rw [hs, hvars]
    rfl
end
end Go.Av

