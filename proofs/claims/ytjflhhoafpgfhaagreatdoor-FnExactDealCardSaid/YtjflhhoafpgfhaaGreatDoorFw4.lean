/- Part of a proof that the law FnExactDeal answers true for every input: the framework, an evaluator over symbolic data and why it is right. No conditions beyond the statement. -/
import Derived.Test.YtjflhhoafpgfhaaGreatDoorFw3
import Derived.IntWalk
import Derived.ChangeArms
import Derived.SizedLaws
import Derived.Carry
import Derived.HandedShaped
import Derived.ProofKit
import Derived.Shelf.Strconv.Itoa3
import Derived.Shelf.Strings.Repeat
import Derived.Lib.ItoaLen
import Derived.Lib.AppendIntMem
import Derived.LaidMore
import Derived.SevenTiedAt
import Derived.MakeChecks
import Derived.Stop.LaidErr
import Derived.Shelf.Vars
namespace Go.Av
theorem bump_ver {st st' : St} {r j : Nat} {v : RV} (h : st.bump r j v = some st') : VerOK st st' := by
 unfold St.bump at h
 split at h
 · rename_i c hc
   simp only [Option.some.injEq] at h
   subst h
   exact VerOK.set hc (Nat.le_succ _) (Nat.lt_succ_self _)
 · simp at h
theorem stBox_ver {r : Nat} : ∀ (ks : List K) (l : List AV) (j : Nat) (st st' : St), st.stBox r j ks l = some st' → VerOK st st'
 | [], [], _, st, st', h => by simp [St.stBox] at h; subst h; exact VerOK.refl _
 | [], _ :: _, _, st, st', h => by simp [St.stBox] at h
 | _ :: _, [], _, st, st', h => by simp [St.stBox] at h
 | k :: ks, a :: l, j, st, st', h => by
   have tk : ∀ (a : AV), (match st.takeAs k a with | some (st1, x) => (match st1.bump r j (.own k x) with | some st1 => st1.stBox r (j + 1) ks l | none => none) | none => none) = some st' → VerOK st st' := fun a h => by
    split at h
    · rename_i st1 x hx
      split at h
      · rename_i st2 h2
        exact (takeAs_ver hx).trans ((bump_ver h2).trans (stBox_ver ks l _ _ _ h))
      · simp at h
    · simp at h
   cases a with
   | ref r2 j2 s2 =>
     simp only [St.stBox] at h
     cases hb : Nat.beq r r2 && Nat.beq j j2 with
     | true =>
       rw [hb] at h
       simp only [cond_true] at h
       split at h
       · obtain ⟨_, h⟩ := bif_or h
         exact stBox_ver ks l _ _ _ h
       · simp at h
     | false =>
       rw [hb] at h
       exact tk _ h
   | cut r2 j2 s2 n => simp only [St.stBox] at h; exact tk _ h
   | nil =>
     simp only [St.stBox] at h
     split at h
     · split at h
       · rename_i st2 h2
         exact (bump_ver h2).trans (stBox_ver _ l _ _ _ h)
       · simp at h
     · simp at h
   | _ =>
     simp only [St.stBox] at h
     split at h
     · split at h
       · rename_i st2 h2
         exact (bump_ver h2).trans (stBox_ver ks l _ _ _ h)
       · simp at h
     · simp at h
theorem stEl_ver {r j s i m0 : Nat} : ∀ (ks : List K) (l : List AV) (c : Nat) (st st' : St), st.stEl r j s i m0 c ks l = some st' → VerOK st st'
 | [], [], _, st, st', h => by simp [St.stEl] at h; subst h; exact VerOK.refl _
 | [], _ :: _, _, st, st', h => by simp [St.stEl] at h
 | _ :: _, [], _, st, st', h => by simp [St.stEl] at h
 | k :: ks, a :: l, c, st, st', h => by
   simp only [St.stEl] at h
   cases hsf : st.selfB r j s m0 c a with
   | true => rw [hsf] at h; exact stEl_ver ks l _ _ _ h
   | false =>
   rw [hsf] at h
   simp only [cond_false] at h
   split at h
   · rename_i st1 x hx
     have h1 : VerOK st st1 := by
      split at hx
      · exact takeAs_ver hx
      · split at hx
        · obtain ⟨_, hx⟩ := bif_or hx
          simp only [Option.some.injEq, Prod.mk.injEq] at hx
          obtain ⟨rfl, _⟩ := hx
          exact VerOK.refl _
        · simp at hx
     split at h
     · rename_i hc
       obtain ⟨_, h⟩ := bif_or h
       split at h
       · refine h1.trans (VerOK.trans (VerOK.set hc ?_ ?_) (stEl_ver ks l _ _ _ h))
         · exact Nat.le_refl _
         · exact Nat.lt_succ_self _
       · simp at h
     · simp at h
   · simp at h
theorem stElD_ver {r j s i m0 : Nat} {ks0 : List K} {z0 : Tl ks0} : ∀ (ks : List K) (l : List AV) (c : Nat) (st : St) (q : St × Tl ks), st.stElD r j s i m0 ks0 z0 c ks l = some q → VerOK st q.1
 | [], [], _, st, q, h => by simp [St.stElD] at h; subst h; exact VerOK.refl _
 | [], _ :: _, _, st, q, h => by simp [St.stElD] at h
 | _ :: _, [], _, st, q, h => by simp [St.stElD] at h
 | k :: ks, a :: l, c, st, q, h => by
   unfold St.stElD at h
   cases hsf : st.selfB r j s m0 c a with
   | true =>
     rw [hsf] at h
     simp only [cond_true] at h
     split at h
     · split at h
       · rename_i x q' hx hrec
         simp only [Option.some.injEq] at h
         subst h
         exact stElD_ver ks l (c + 1) st q' hrec
       · simp at h
     · simp at h
   | false =>
   rw [hsf] at h
   simp only [cond_false] at h
   split at h
   · rename_i st1 x hx
     have h1 : VerOK st st1 := by
      split at hx
      · exact takeAs_ver hx
      · split at hx
        · obtain ⟨_, hx⟩ := bif_or hx
          simp only [Option.some.injEq, Prod.mk.injEq] at hx
          obtain ⟨rfl, _⟩ := hx
          exact VerOK.refl _
        · simp at hx
     split at h
     · rename_i hc
       obtain ⟨_, h⟩ := bif_or h
       split at h
       · split at h
         · rename_i q' hrec
           simp only [Option.some.injEq] at h
           subst h
           refine h1.trans (VerOK.trans (VerOK.set hc ?_ ?_) (stElD_ver ks l _ _ q' hrec))
           · exact Nat.le_refl _
           · exact Nat.lt_succ_self _
         · simp at h
       · simp at h
     · simp at h
   · simp at h
theorem stRow_ver {st st' : St} {r j s i : Nat} {ks : List K} {l : List AV} (h : st.stRow r j s i ks l = some st') : VerOK st st' := by
 unfold St.stRow at h
 split at h
 · rename_i s0 m e ks0 xs hc
   split at h
   · rename_i q hq
     split at h
     · rename_i y c1 hy hc1
       obtain ⟨hb, h⟩ := bif_or h
       simp only [Option.some.injEq] at h
       subst h
       have hv := stElD_ver ks l 0 st q hq
       have hlt : m < c1.m := Nat.lt_of_succ_le (Nat.le_of_ble_eq_true hb)
       intro r' j' c hcc
       obtain ⟨c', k1, k2, k3, k4⟩ := hv r' j' c hcc
       rw [setCell_cell]
       by_cases hh : r = r' ∧ j = j'
       · obtain ⟨rfl, rfl⟩ := hh
         rw [if_pos ⟨rfl, rfl⟩, k1]
         rw [k1] at hc1
         cases hc1
         rw [hc] at hcc
         cases hcc
         exact ⟨_, rfl, k2, k3, fun _ e => by simp only at e; omega⟩
       · rw [if_neg hh]
         exact ⟨c', k1, k2, k3, k4⟩
     · simp at h
   · simp at h
 · simp at h
theorem store_ver {st st' : St} {ks : List K} {l : List AV} {a : AV} (h : st.store ks l a = some st') : VerOK st st' := by
 unfold St.store at h
 split at h
 · exact stBox_ver _ _ _ _ _ h
 · obtain ⟨_, h⟩ := bif_or h
   revert h
   generalize (Nat.beq _ 0 && Nat.ble 8 l.length) = b
   cases b with
   | true => exact fun h => stRow_ver h
   | false => exact fun h => stEl_ver _ _ _ _ _ h
 · simp at h
theorem wop_store_ver {E : En} {v st1 : St} {t : Nat} {a x : Operand} (h : (wop E v none (.store t a x)).run = some st1) : VerOK v st1 := by
 unfold wop at h
 obtain ⟨ti, h1, h⟩ := Tr.run_ofO h
 obtain ⟨ta, h2, h⟩ := Tr.run_ofO h
 obtain ⟨av, h3, h⟩ := Tr.run_ofO h
 obtain ⟨tx, h4, h⟩ := Tr.run_ofO h
 obtain ⟨p, h5, h⟩ := Tr.run_ofO h
 cases hb : p.2.all v.live && Nat.beq p.2.length ti.ks.length with
 | false => rw [hb] at h; simp [Tr.run] at h
 | true =>
   rw [hb] at h
   simp only [cond_true] at h
   obtain ⟨_, h⟩ := Tr.run_need h
   obtain ⟨s1, h6, h⟩ := Tr.run_ofO h
   simp only [Tr.run, Option.some.injEq] at h
   subst h
   exact store_ver h6
def sameCells (st st' : St) (r : Nat) : Nat → Nat → Bool
 | _, 0 => true
 | j, n + 1 => (match st.cell r j, st'.cell r j with | some c, some c' => Nat.beq c'.s c.s && Nat.beq c'.m c.m | _, _ => false) && sameCells st st' r (j + 1) n
theorem same_ld {st st' : St} (hv : VerOK st st') {r : Nat} : ∀ (n j : Nat), sameCells st st' r j n = true → st'.ldCells r j n = st.ldCells r j n
 | 0, _, _ => rfl
 | n + 1, j, h => by
   simp only [sameCells, Bool.and_eq_true] at h
   obtain ⟨h1, h2⟩ := h
   split at h1
   · rename_i c c' hc hc'
     simp only [Bool.and_eq_true] at h1
     obtain ⟨c2, e1, _, _, e4⟩ := hv r j c hc
     rw [hc'] at e1
     cases e1
     have e := e4 (beq_eq h1.1) (beq_eq h1.2)
     subst e
     have : st'.ldCell r j = st.ldCell r j := by simp only [St.ldCell, hc, hc']
     simp only [St.ldCells, this, same_ld hv n (j + 1) h2]
   · simp at h1
section
variable {E : En} {base : St} {ops : List Oper} {ns : List Nat}
theorem regT_look (hnf : ∀ i, fence ns i = false) (hg : hasGuard ops = false) : ∀ (l : List Oper) (i : Nat) (bs : Bd) (v : St), (∀ o ∈ l, o.guard = none) → BdOK E.dok base bs → (∀ e ∈ bs, e.1 < i) → (regT E true ops ns l i base bs).run = some v →
 ∃ bs', BdOK E.dok base bs' ∧ v = viewAll base bs' ∧ (∀ e ∈ bs, e ∈ bs') ∧ ∀ k o, l[k]? = some o → ∃ d p mask bs0, o.dst = some d ∧ (i + k, d, p) ∈ bs' ∧ (∀ e ∈ bs0, e ∈ bs') ∧ (qop E (view base mask bs0) d o.op).run = some p
 | [], i, bs, v, _, hb, _, h => by
   simp only [regT, Tr.run, Option.some.injEq, hg, sureIf, cond_false] at h
   exact ⟨bs, hb, h.symm, fun e he => he, fun k o hk => by simp at hk⟩
 | o :: r, i, bs, v, hgd, hb, hi, h => by
   have hgo := hgd o (List.mem_cons_self ..)
   unfold regT at h
   simp only [hgo] at h
   split at h
   · rename_i d hd
     have key : ∀ (t : Tr (TV × Option Rt)), t = quietT E (ns.getD i allBits) o d base bs (true && !fence ns i) → (t.bind fun p => regT E true ops ns r (i + 1) base ((i, d, p) :: bs)).run = some v → ∃ bs', BdOK E.dok base bs' ∧ v = viewAll base bs' ∧ (∀ e ∈ bs, e ∈ bs') ∧ ∀ k o', (o :: r)[k]? = some o' → ∃ d p mask bs0, o'.dst = some d ∧ (i + k, d, p) ∈ bs' ∧ (∀ e ∈ bs0, e ∈ bs') ∧ (qop E (view base mask bs0) d o'.op).run = some p := by
      intro t ht h
      rw [Tr.run_bind] at h
      cases hp : t.run with
      | none => rw [hp] at h; simp at h
      | some p =>
        rw [hp] at h
        simp only [Option.bind_some] at h
        rw [ht] at hp
        unfold quietT at hp
        cases ha : (isAssign o.op && !(true && !fence ns i)) with
        | true => rw [ha] at hp; simp [Tr.run] at hp
        | false =>
          rw [ha] at hp
          simp only [cond_false] at hp
          cases hc : E.dB d && newTm base d && base.free d && !hasBd d bs with
          | false => rw [hc] at hp; simp [Tr.run] at hp
          | true =>
            rw [hc] at hp
            simp only [cond_true] at hp
            have hb' : BdOK E.dok base ((i, d, p) :: bs) := BdOK.cons_of (fun h => h) hb hc fun e he => Nat.ne_of_lt (hi e he)
            obtain ⟨bs', g1, g2, g3, g4⟩ := regT_look hnf hg r (i + 1) ((i, d, p) :: bs) v (fun o' ho' => hgd o' (List.mem_cons_of_mem _ ho')) hb' (fun e he => by
             rcases List.mem_cons.1 he with he | he
             · subst he; exact Nat.lt_succ_self _
             · exact Nat.lt_succ_of_lt (hi e he)) h
            refine ⟨bs', g1, g2, fun e he => g3 e (List.mem_cons_of_mem _ he), fun k o' hk => ?_⟩
            cases k with
            | zero =>
              simp only [List.getElem?_cons_zero, Option.some.injEq] at hk
              subst hk
              exact ⟨d, p, _, bs, hd, g3 _ (List.mem_cons_self ..), fun e he => g3 e (List.mem_cons_of_mem _ he), hp⟩
            | succ k =>
              obtain ⟨d', p', m', b0, q1, q2, q3, q4⟩ := g4 k o' (by simpa using hk)
              exact ⟨d', p', m', b0, q1, by rw [show i + (k + 1) = i + 1 + k by omega]; exact q2, q3, q4⟩
     split at h
     · simp [hnf, Tr.run] at h
     · exact key _ rfl h
   · simp [hnf, Tr.run] at h
end
theorem ld_rt {st st' : St} (h : st'.rt = st.rt) {r : Nat} : ∀ (n j : Nat), st'.ldCells r j n = st.ldCells r j n
 | 0, _ => rfl
 | n + 1, j => by
   have : st'.ldCell r j = st.ldCell r j := by unfold St.ldCell St.cell; rw [h]
   simp only [St.ldCells, this, ld_rt h n (j + 1)]
theorem view_some {base : St} {m : Nat} : ∀ {bs : Bd} {t : Nat} {tv : TV}, look (view base m bs).tm t = some tv → (∃ i p, (i, t, p) ∈ bs ∧ p.1 = tv) ∨ look base.tm t = some tv
 | [], t, tv, h => .inr h
 | (i0, t0, p0) :: r, t, tv, h => by
   unfold view at h
   cases hb : m.testBit i0 with
   | false =>
     rw [hb] at h
     rcases view_some (bs := r) h with ⟨i, p, h1, h2⟩ | h1
     · exact .inl ⟨i, p, List.mem_cons_of_mem _ h1, h2⟩
     · exact .inr h1
   | true =>
     rw [hb] at h
     simp only [cond_true] at h
     rw [bindT_tm] at h
     split at h
     · rename_i he
       subst he
       simp only [Option.some.injEq] at h
       exact .inl ⟨i0, p0, List.mem_cons_self .., h⟩
     · rcases view_some (bs := r) h with ⟨i, p, h1, h2⟩ | h1
       · exact .inl ⟨i, p, List.mem_cons_of_mem _ h1, h2⟩
       · exact .inr h1
theorem fence_no {l : List Nat} (hl : 0 < l.length) (i : Nat) : fence (l ++ [0]) i = false := by
 cases hf : fence (l ++ [0]) i with
 | false => rfl
 | true =>
   exfalso
   unfold fence at hf
   simp only [Bool.and_eq_true, List.all_eq_true, List.mem_range] at hf
   rcases Nat.lt_or_ge i l.length with h | h
   · have := hf.2 (l.length - i - 1) (by rw [List.length_append]; simp; omega)
     rw [show i + 1 + (l.length - i - 1) = l.length by omega] at this
     simp [List.getD] at this
   · have := hf.1 0 (by omega)
     have e : (l ++ [0]).getD i 0 = 0 := by
      rw [List.getD]
      rcases Nat.lt_or_ge i (l ++ [0]).length with h2 | h2
      · have : i = l.length := by rw [List.length_append] at h2; simp at h2; omega
        subst this
        simp
      · rw [List.getElem?_eq_none h2]; rfl
     rw [e] at this
     simp at this
end Go.Av
namespace Go.Av
open Go.RowKit (Below)
def keepL (l : List Oper) (J : List Nat) (nd : Nat) (t : Nat) : Bool := J.all fun j => nd.testBit j || (match dstOf l j with | some d => !Nat.beq d t | none => true)
def opK (l : List Oper) (J : List Nat) : Operand → Bool
 | .tmp t => keepL l J 0 t
 | _ => true
def sameAV : AV → TV → Bool
 | .ptr r j, .v (.ptr r' j') => Nat.beq r r' && Nat.beq j j'
 | .ref r j s, .v (.ref r' j' s') => Nat.beq r r' && (Nat.beq j j' && Nat.beq s s')
 | _, _ => false
theorem sameAV_eq {b : AV} {tv : TV} (h : sameAV b tv = true) : tv = .v b := by
 unfold sameAV at h
 split at h
 · simp only [Bool.and_eq_true] at h
   rw [beq_eq h.1, beq_eq h.2]
 · simp only [Bool.and_eq_true] at h
   rw [beq_eq h.1, beq_eq h.2.1, beq_eq h.2.2]
 · simp at h
def isRetB (tv : TV) : Tr (TV × Option Rt) → Bool
 | .ret (.v b, none) => sameAV b tv
 | _ => false
def aloneD (l : List Oper) (i j d : Nat) : Bool := (List.range i).all fun k => Nat.beq k j || (match dstOf l k with | some d' => !Nat.beq d' d | none => true)
theorem qop_load (E : En) (st : St) (d : Nat) (t : TypeId) (x : Operand) : qop E st d (.load t x) = Tr.ofO (E.ti t) fun ti => Tr.ofO (st.get x) fun tv => Tr.ofO tv.av? fun a => Tr.ofO (st.load ti.ks.length a) fun l => Tr.ofO (wrapAgg ti.agg l) fun tv => .ret (tv, none) := rfl
def lateLd (E : En) (l : List Oper) (ns J : List Nat) (v st1 : St) (j : Nat) (op : Op) : Bool := match op with
 | .load t (.tmp B) => (match look v.tm B, E.ti t with
   | some (.v (.ptr r j0)), some ti => keepL l J (ns.getD j 0) B && sameCells v st1 r j0 ti.ks.length
   | _, _ => false)
 | _ => false
def lateOne (E : En) (l : List Oper) (ns : List Nat) (i : Nat) (J : List Nat) (st v st1 : St) (j : Nat) : Bool := match l[j]? with
 | some o => (match o.dst with
   | some d => newTm st d && st1.free d && aloneD l i j d && (match look v.tm d with
     | some tv => lateLd E l ns J v st1 j o.op || isRetB tv (qop E ⟨v.tm.filter (fun p => keepL l J (ns.getD j 0) p.1), st1.rt⟩ d o.op)
     | none => false)
   | none => false)
 | none => false
def noRoot (v : St) (l : List Oper) (J : List Nat) : Bool := J.all fun j => match dstOf l j with | some d => v.free d | none => true
def lateT (E : En) (ops : Array Oper) (i : Nat) (J : List Nat) (st : St) : Tr St :=
 bif edgesOk ops.toList 0 && (!hasGuard ops.toList && (!hasGuard (ops.toList.take i) && (Nat.blt i ops.toList.length && ((List.range i).all (fun j => memN J j || ((needs ops.toList []).getD i 0).testBit j) && (List.range (ops.toList.length - i - 1)).all (fun k => (List.range (i + 1)).all fun j => ((needs ops.toList []).getD (i + 1 + k) 0).testBit j))))) then
  (regT E true (ops.toList.take i) (needs ops.toList [] ++ [0]) (ops.toList.take i) 0 st []).bind fun v => match ops.toList[i]? with
    | some o => (match o.op, o.dst with
      | .store t a x, none => bif opK ops.toList J a && (opK ops.toList J x && noRoot v ops.toList J) then
        (wop E v none (.store t a x)).bind fun st1 => bif J.all (lateOne E ops.toList (needs ops.toList []) i J st v st1) then regT E true ops.toList (needs ops.toList []) (ops.toList.drop (i + 1)) (i + 1) st1 [] else .fail
        else .fail
      | _, _ => .fail)
    | none => .fail
 else .fail
def opsOf (c : Code) : Array Oper := match c with | .region _ ops _ => ops | _ => #[]
theorem wop_store_tm {E : En} {v st1 : St} {t : Nat} {a x : Operand} {tm : List (Nat × TV)} (h : (wop E v none (.store t a x)).run = some st1) (ha : (v.withTm tm).get a = v.get a) (hx : (v.withTm tm).get x = v.get x) : (wop E (v.withTm tm) none (.store t a x)).run = some (st1.withTm tm) := by
 unfold wop at h ⊢
 obtain ⟨ti, h1, h⟩ := Tr.run_ofO h
 obtain ⟨ta, h2, h⟩ := Tr.run_ofO h
 obtain ⟨av, h3, h⟩ := Tr.run_ofO h
 obtain ⟨tx, h4, h⟩ := Tr.run_ofO h
 obtain ⟨p, h5, h⟩ := Tr.run_ofO h
 have hl : (v.withTm tm).live = v.live := funext fun a => live_withTm a
 simp only [ha, hx, h1, h2, h3, h4, h5, Tr.ofO, hl]
 cases hb : p.2.all v.live && Nat.beq p.2.length ti.ks.length with
 | false => rw [hb] at h; simp [Tr.run] at h
 | true =>
   rw [hb] at h
   simp only [cond_true] at h ⊢
   obtain ⟨hn, h⟩ := Tr.run_need h
   obtain ⟨s1, h6, h⟩ := Tr.run_ofO h
   simp only [Tr.run, Option.some.injEq] at h
   subst h
   have hn' : (v.withTm tm).selfT av p.2 = true := hn
   rw [store_withTm, h6, hn']
   rfl
theorem view_rtS {base : St} {S S' : Nat} : ∀ {bs : Bd}, (∀ i t p, (i, t, p) ∈ bs → p.2 = none ∨ (S.testBit i = true ∧ S'.testBit i = true)) → (view base S bs).rt = (view base S' bs).rt
 | [], _ => rfl
 | (i, t, p) :: r, h => by
   have ih := view_rtS (base := base) (S := S) (S' := S') (bs := r) fun i t p hm => h i t p (List.mem_cons_of_mem _ hm)
   unfold view
   rcases h i t p (List.mem_cons_self ..) with hp | ⟨h1, h2⟩
   · cases S.testBit i <;> cases S'.testBit i <;> simp only [cond_true, cond_false] <;> (try unfold St.bindT) <;> (try rw [hp]) <;> exact ih
   · rw [h1, h2]
     simp only [cond_true]
     unfold St.bindT
     cases p.2 <;> simp only [ih]
theorem view_someR {base : St} {m : Nat} : ∀ {bs : Bd} {t : Nat} {R : Rt}, look (view base m bs).rt t = some R → (∃ i p, (i, t, p) ∈ bs ∧ p.2 = some R) ∨ look base.rt t = some R
 | [], t, R, h => .inr h
 | (i, t', p) :: r, t, R, h => by
   unfold view at h
   have rest : look (view base m r).rt t = some R → (∃ i' p', (i', t, p') ∈ (i, t', p) :: r ∧ p'.2 = some R) ∨ look base.rt t = some R := fun h => by
    rcases view_someR h with ⟨i', p', h1, h2⟩ | h1
    · exact .inl ⟨i', p', List.mem_cons_of_mem _ h1, h2⟩
    · exact .inr h1
   cases hm : m.testBit i with
   | false => rw [hm] at h; exact rest h
   | true =>
     rw [hm] at h
     simp only [cond_true] at h
     unfold St.bindT at h
     cases hp : p.2 with
     | none => rw [hp] at h; exact rest h
     | some R' =>
       rw [hp] at h
       simp only [look_cons] at h
       split at h
       · rename_i e
         subst e
         cases h
         exact .inl ⟨i, p, List.mem_cons_self .., hp⟩
       · exact rest h
theorem tv_noMay {st : St} (h : NoMay st) (t : Nat) : st.tv t = look st.tm t := by
 unfold St.tv
 split
 · rename_i q want y gg l hq
   exact absurd trivial (h t _ hq)
 · rfl
theorem look_filterK (f : Nat → Bool) : ∀ (l : List (Nat × TV)) (t : Nat), look (l.filter fun p => f p.1) t = if f t then look l t else none
 | [], t => by simp [look]
 | (m, x) :: r, t => by
   rw [List.filter_cons]
   have ih := look_filterK f r t
   cases hm : f m with
   | true =>
     simp only [if_true]
     rw [look_cons, look_cons]
     by_cases e : m = t
     · subst e; simp [hm]
     · rw [if_neg e, if_neg e, ih]
   | false =>
     simp only [Bool.false_eq_true, if_false]
     rw [ih, look_cons]
     by_cases e : m = t
     · subst e; simp [hm]
     · rw [if_neg e]
theorem memN_mem : ∀ {l : List Nat} {n : Nat}, memN l n = true → n ∈ l
 | [], n, h => by simp [memN] at h
 | x :: r, n, h => by
   simp only [memN, Bool.or_eq_true] at h
   rcases h with h | h
   · rw [beq_eq h]; exact List.mem_cons_self ..
   · exact List.mem_cons_of_mem _ (memN_mem h)
theorem noGuard {l : List Oper} (h : hasGuard l = false) {i : Nat} {o : Oper} (ho : l[i]? = some o) : o.guard = none := by
 unfold hasGuard at h
 rw [List.any_eq_false] at h
 have := h o (List.mem_of_getElem? ho)
 cases hg : o.guard with
 | none => rfl
 | some g => rw [hg] at this; simp at this
section
variable {P : Program} {E : En}
theorem wpOp_same {ops ops' : Array Oper} {Q : Exit → Act → World → Prop} {j : Nat} {o : Oper} (h : ops[j]? = some o) (h' : ops'[j]? = some o) (hg : o.guard = none) {K : Act → World → Prop} {a : Act} {w : World} (hw : wpOp P ops' Q j K a w) : wpOp P ops Q j K a w := by
 unfold wpOp at hw ⊢
 have e : ∀ (ops : Array Oper), Region.wanted o (yielded ops a.tmps) = true := fun ops => by simp [Region.wanted, hg]
 simp only [h, h', e] at hw ⊢
 exact hw
theorem late_any (hT : TTok P E) (hga : GAok P E) {ops : Array Oper} {i : Nat} {J : List Nat} {cx : Cx P} {a : Act} {w : World} {st st' : St} (h : Good cx E st a w) (hrun : (lateT E ops i J st).run = some st') : wpAny P .any ops (QO cx E (.nrm st')) ops.size (Array.replicate ops.size false) a { w with drawn := w.drawn + 1 } := by
 have hW : WSound P E := wsound hT hga
 unfold lateT at hrun
 generalize hc : (edgesOk ops.toList 0 && (!hasGuard ops.toList && (!hasGuard (ops.toList.take i) && (Nat.blt i ops.toList.length && ((List.range i).all (fun j => memN J j || ((needs ops.toList []).getD i 0).testBit j) && (List.range (ops.toList.length - i - 1)).all (fun k => (List.range (i + 1)).all fun j => ((needs ops.toList []).getD (i + 1 + k) 0).testBit j)))))) = c at hrun
 cases c with
 | false => simp [Tr.run] at hrun
 | true =>
 simp only [cond_true] at hrun
 simp only [Bool.and_eq_true, Bool.not_eq_true', List.all_eq_true, List.mem_range, Bool.or_eq_true] at hc
 obtain ⟨hed, hng, hng', hilt, hpre, hpost⟩ := hc
 have hi : i < ops.size := by
  have := Nat.lt_of_succ_le (Nat.le_of_ble_eq_true hilt)
  simpa using this
 rw [Tr.run_bind] at hrun
 cases hv : (regT E true (ops.toList.take i) (needs ops.toList [] ++ [0]) (ops.toList.take i) 0 st []).run with
 | none => rw [hv] at hrun; simp at hrun
 | some v =>
 rw [hv] at hrun
 simp only [Option.bind_some] at hrun
 split at hrun
 rotate_left
 · simp [Tr.run] at hrun
 rename_i o ho
 split at hrun
 rotate_left
 · simp [Tr.run] at hrun
 rename_i t xa xx hop hdst
 generalize hc : (opK ops.toList J xa && (opK ops.toList J xx && noRoot v ops.toList J)) = c at hrun
 cases c with
 | false => simp [Tr.run] at hrun
 | true =>
 simp only [cond_true] at hrun
 simp only [Bool.and_eq_true] at hc
 obtain ⟨hka, hkx, hnr⟩ := hc
 rw [Tr.run_bind] at hrun
 cases hst1 : (wop E v none (.store t xa xx)).run with
 | none => rw [hst1] at hrun; simp at hrun
 | some st1 =>
 rw [hst1] at hrun
 simp only [Option.bind_some] at hrun
 generalize hc : J.all (lateOne E ops.toList (needs ops.toList []) i J st v st1) = c at hrun
 cases c with
 | false => simp [Tr.run] at hrun
 | true =>
 simp only [cond_true] at hrun
 have hlate1 := List.all_eq_true.1 hc
 obtain ⟨hn, hsz, Z, g, hr⟩ := h
 have hlen : (needs ops.toList []).length = ops.size := by rw [needs_len]; simp
 have hopst : (ops.toList.take i).toArray.toList = ops.toList.take i := by simp
 have hsize' : (ops.toList.take i).toArray.size = i := by simp; omega
 have hops' : ∀ j, j < i → (ops.toList.take i).toArray[j]? = ops[j]? := fun j hj => by
  rw [← Array.getElem?_toList, hopst, List.getElem?_take, if_pos hj, Array.getElem?_toList]
 rw [Array.getElem?_toList] at ho
 have hseg := regT_seg (P := P) (E := E) (ops := (ops.toList.take i).toArray) (ns := needs ops.toList [] ++ [0]) (i0 := 0) hT hga (dr := true) hn (ops.toList.take i) 0 (by simp) (Nat.zero_le _) (Nat.le_refl _) [] v ⟨trivial, hn.MB, fun e he => by simp at he, fun _ _ _ _ he => by simp at he⟩ (by rw [hopst]; exact hv)
 obtain ⟨i1, bsF, k1, k2, k3, k4, k5, k6, k7, k8⟩ := hseg
 replace k5 := k5 (by rw [hopst]; exact hng')
 have hk8 : i1 = i ∧ v = viewAll st bsF := by
  rcases k8 with ⟨e1, e2⟩ | ⟨o', st'', e1, _, e3, _⟩
  · rw [hopst, hng'] at e2
    exact ⟨e1.trans hsize', e2⟩
  · exfalso
    have hi1 : i1 < i := by
     have := (Array.getElem?_eq_some_iff.1 e1).1
     rw [hsize'] at this
     exact this
    have hf := e3 rfl
    unfold fence at hf
    simp only [Bool.and_eq_true, List.all_eq_true, List.mem_range] at hf
    have := hf.2 (ops.size - i1 - 1) (by rw [List.length_append, hlen]; simp; omega)
    rw [show i1 + 1 + (ops.size - i1 - 1) = (needs ops.toList []).length by rw [hlen]; omega] at this
    simp [List.getD] at this
 obtain ⟨e1, rfl⟩ := hk8
 subst e1
 have hidx : ∀ e ∈ bsF, e.1 < i1 := fun e he => (k4 e he).2.1
 have hidxD : ∀ e ∈ bsF, dstOf ops.toList e.1 = some e.2.1 := fun e he => by
  obtain ⟨_, h2, o', h3, h4⟩ := k4 e he
  rw [hops' _ h2] at h3
  unfold dstOf
  rw [Array.getElem?_toList, h3]
  exact h4
 have hroot : ∀ i' t p, (i', t, p) ∈ bsF → memN J i' = true → p.2 = none := fun i' t' p hp hJ => by
  cases hp2 : p.2 with
  | none => rfl
  | some R =>
    exfalso
    have := List.all_eq_true.1 hnr i' (memN_mem hJ)
    rw [hidxD _ hp] at this
    simp only [St.free] at this
    have hl : look (viewAll st bsF).rt t' = some R := by
     rw [viewAll_eq st (bitsOf bsF) bsF (fun i t p h => bitsOf_mem h), view_rt _ k2]
     exact .inl ⟨i', p, hp, bitsOf_mem hp, hp2⟩
    rw [hl] at this
    simp at this
 have hNV : ∀ S, NoMay (view st S bsF) := fun S t tv ht => by
  rw [view_tm _ k2] at ht
  rcases ht with ⟨i', p, h1, _, rfl⟩ | h1
  · exact k5 i' t p h1
  · exact hn t tv h1
 have hNA : NoMay (viewAll st bsF) := fun t tv ht => by
  rw [viewAll_tm k2] at ht
  rcases ht with ⟨i', p, h1, rfl⟩ | h1
  · exact k5 i' t p h1
  · exact hn t tv h1
 have hvw : ∀ S, (∀ j, j < i1 → memN J j = false → S.testBit j = true) → view st S bsF = (viewAll st bsF).withTm (view st S bsF).tm := fun S hS => by
  unfold St.withTm
  have : (viewAll st bsF).rt = (view st S bsF).rt := by
   rw [viewAll_eq st (bitsOf bsF) bsF (fun i t p h => bitsOf_mem h)]
   refine view_rtS fun i t p h => ?_
   cases hJ : memN J i with
   | true => exact .inl (hroot i t p h hJ)
   | false => exact .inr ⟨bitsOf_mem h, hS i (hidx _ h) hJ⟩
  rw [this]
 have hself : ∀ (s : St), s.withTm s.tm = s := fun s => rfl
 have hst1' : st1 = st1.withTm (viewAll st bsF).tm := by
  have := wop_store_tm (tm := (viewAll st bsF).tm) hst1 rfl rfl
  rw [hself, hst1] at this
  exact Option.some.inj this
 have hlook : ∀ S nd t, (∀ j, j < i1 → memN J j = false → S.testBit j = true) → (∀ b, nd.testBit b = true → b < i1 → S.testBit b = true) → keepL ops.toList J nd t = true → look (view st S bsF).tm t = look (viewAll st bsF).tm t := fun S nd t hS hnd hk => by
  apply Option.ext
  intro tv
  show look _ t = some tv ↔ look _ t = some tv
  rw [view_tm _ k2, viewAll_tm k2]
  constructor
  · rintro (⟨i', p, h1, _, h3⟩ | h1)
    · exact .inl ⟨i', p, h1, h3⟩
    · exact .inr h1
  · rintro (⟨i', p, h1, h3⟩ | h1)
    · refine .inl ⟨i', p, h1, ?_, h3⟩
      have hi' := hidx _ h1
      cases hJ : memN J i' with
      | false => exact hS i' hi' hJ
      | true =>
        have := List.all_eq_true.1 hk i' (memN_mem hJ)
        rw [hidxD _ h1] at this
        simp only [Bool.or_eq_true, Bool.not_eq_true'] at this
        rcases this with h | h
        · exact hnd i' h hi'
        · exact absurd rfl (Nat.ne_of_beq_eq_false h)
    · exact .inr h1
 have hget : ∀ S (x : Operand), (∀ j, j < i1 → memN J j = false → S.testBit j = true) → opK ops.toList J x = true → ((viewAll st bsF).withTm (view st S bsF).tm).get x = (viewAll st bsF).get x := fun S x hS hk => by
  rw [← hvw S hS]
  cases x with
  | tmp t =>
    show (view st S bsF).tv t = (viewAll st bsF).tv t
    rw [tv_noMay (hNV S), tv_noMay hNA]
    exact hlook S 0 t hS (fun b hb => by simp at hb) hk
  | _ => rfl
 have hnm1 : ∀ S, NoMay (st1.withTm (view st S bsF).tm) := fun S t tv ht => hNV S t tv ht
 have hshift : ∀ x, (needs ops.toList [] ++ [0]).getD x allBits = (needs ops.toList [] ++ [0]).getD x allBits := fun _ => rfl
 refine reg_late (P := P) (E := E) (cx := cx) (Q := QO cx E (.nrm st')) (i := i1) (J := memN J) (base := st) (bsF := bsF) (G := fun S => st1.withTm (view st S bsF).tm) hed hi ?_ ?_ ?_ ?_ ?_ ?_ ops.size (Array.replicate ops.size false) 0 false a _ Z g (by simp) (fun k hk => ?_) (fun k _ => Nat.zero_testBit k) ?_ (fun k hk => ?_) (fun hh => by simp at hh) ?_ hsz
 ·
  intro j hj cx S a w Z g next Q hS hSj hr hsz hnext
  have ho' : ∃ o', ops[j]? = some o' := ⟨ops[j]'(by omega), by simp⟩
  obtain ⟨o', ho'⟩ := ho'
  refine wpOp_same ho' (by rw [hops' j hj]; exact ho') (noGuard hng (by rw [Array.getElem?_toList]; exact ho')) ?_
  refine k7 j (Nat.zero_le _) hj cx S a w Z g next Q (fun k h1 h2 h3 => hS k h1 h2 ?_) hSj hr hsz hnext
  have hjl : j < (needs ops.toList []).length := by rw [hlen]; omega
  rw [List.getD, List.getElem?_append_left hjl] at h3
  exact h3
 · intro j hj hJ
   rcases hpre j hj with h | h
   · rw [hJ] at h; simp at h
   · exact h
 · intro k hik hk j hj
   have := hpost (k - i1 - 1) (by simp; omega) j (by omega)
   rw [show i1 + 1 + (k - i1 - 1) = k by omega] at this
   exact this
 ·
  intro S a w Z g next hS hhi hr hsz hnext
  have hSt : (wop E (view st S bsF) none (.store t xa xx)).run = some (st1.withTm (view st S bsF).tm) := by
   have := wop_store_tm (tm := (view st S bsF).tm) hst1 (hget S xa hS hka) (hget S xx hS hkx)
   rw [← hvw S hS] at this
   exact this
  refine wpOp_wop ho (noGuard hng (by rw [Array.getElem?_toList]; exact ho)) ?_
  obtain ⟨_, hw'⟩ := hW cx Z g _ a w o _ hr (hNV S) hsz (by rw [hdst]; rfl) (by rw [hdst, hop]; exact hSt)
  exact hw' _ _ hnext
 ·
  intro S j a w Z g next hS hhi hj hJ hSj hnd hr hsz hnext
  have hl := hlate1 j (memN_mem hJ)
  unfold lateOne at hl
  split at hl
  rotate_left
  · simp at hl
  rename_i o' ho'
  rw [Array.getElem?_toList] at ho'
  split at hl
  rotate_left
  · simp at hl
  rename_i d hd
  simp only [Bool.and_eq_true] at hl
  obtain ⟨⟨⟨l1, l2⟩, l3⟩, l4⟩ := hl
  split at l4
  rotate_left
  · simp at l4
  rename_i tv htv
  have hent : ∃ p, (j, d, p) ∈ bsF ∧ p.1 = tv := by
   rw [viewAll_tm k2] at htv
   rcases htv with ⟨i', p, h1, h3⟩ | h1
   · have hi' := hidx _ h1
     have := List.all_eq_true.1 l3 i' (List.mem_range.2 hi')
     rw [hidxD _ h1] at this
     simp only [Bool.or_eq_true, Bool.not_eq_true'] at this
     rcases this with h | h
     · rw [beq_eq h] at h1; exact ⟨p, h1, h3⟩
     · exact absurd rfl (Nat.ne_of_beq_eq_false h)
   · unfold newTm at l1
     rw [h1] at l1
     simp at l1
  obtain ⟨p, hp, hpt⟩ := hent
  have hp2 := hroot _ _ _ hp hJ
  have hq : (qop E ⟨(viewAll st bsF).tm.filter (fun p => keepL ops.toList J ((needs ops.toList []).getD j 0) p.1), st1.rt⟩ d o'.op).run = some (tv, none) := by
   rw [Bool.or_eq_true] at l4
   rcases l4 with l4 | l4
   rotate_left
   · unfold isRetB at l4
     split at l4
     rotate_left
     · simp at l4
     rename_i b hq
     rw [hq, sameAV_eq l4]
     rfl
   unfold lateLd at l4
   split at l4
   rotate_left
   · simp at l4
   rename_i t' B hop'
   split at l4
   rotate_left
   · simp at l4
   rename_i r j0 ti hB hti
   simp only [Bool.and_eq_true] at l4
   obtain ⟨hkB, hsame⟩ := l4
   obtain ⟨bs', g1, g2, _, g4⟩ := regT_look (E := E) (base := st) (fence_no (l := needs ops.toList []) (by rw [hlen]; omega)) hng' (ops.toList.take i1) 0 [] _ (fun o ho => by
    obtain ⟨k, hk⟩ := List.getElem?_of_mem ho
    exact noGuard hng' hk) trivial (fun e he => by simp at he) hv
   have hgj : (ops.toList.take i1)[j]? = some o' := by rw [List.getElem?_take, if_pos hj, Array.getElem?_toList]; exact ho'
   obtain ⟨d2, p2, mask, bs0, q1, q2, q3, q4⟩ := g4 j o' hgj
   rw [hd] at q1
   cases q1
   have htv2 : tv = p2.1 := by
    have := (viewAll_tm g1 d p2.1).2 (.inl ⟨_, _, q2, rfl⟩)
    rw [← g2, htv] at this
    exact Option.some.inj this
   have hent2 : ∀ t' tv', look (view st mask bs0).tm t' = some tv' → look (viewAll st bsF).tm t' = some tv' := fun t' tv' h => by
    rw [g2, viewAll_tm g1]
    rcases view_some h with ⟨i', p, h1, h2⟩ | h1
    · exact .inl ⟨i', p, q3 _ h1, h2⟩
    · exact .inr h1
   have hnw : NoMay (view st mask bs0) := fun t' tv' h => hNA t' tv' (hent2 t' tv' h)
   rw [hop'] at q4
   unfold qop at q4
   obtain ⟨ti2, r1, q4⟩ := Tr.run_ofO q4
   rw [hti] at r1
   cases r1
   obtain ⟨tvB, r2, q5⟩ := Tr.run_ofO q4
   obtain ⟨aB, r3, q6⟩ := Tr.run_ofO q5
   obtain ⟨lB, r4, q7⟩ := Tr.run_ofO q6
   obtain ⟨tvR, r5, q8⟩ := Tr.run_ofO q7
   simp only [Tr.run, Option.some.injEq] at q8
   have r2 : (view st mask bs0).tv B = some tvB := r2
   rw [tv_noMay hnw] at r2
   have := hent2 _ _ r2
   rw [hB] at this
   cases this
   simp only [TV.av?, Option.some.injEq] at r3
   subst r3
   have hld : st1.ldCells r j0 ti.ks.length = some lB := by
    rw [same_ld (wop_store_ver hst1) _ _ hsame]
    have hx : Ext (view st mask bs0) (viewAll st bsF) := ⟨hent2, fun r' R' h => by
     rw [g2, viewAll_eq st (bitsOf bs') bs' (fun i t p h => bitsOf_mem h), view_rt _ g1]
     rcases view_someR h with ⟨i', p, h1, h2⟩ | h1
     · exact .inl ⟨i', p, q3 _ h1, bitsOf_mem (q3 _ h1), h2⟩
     · exact .inr h1⟩
    exact hx.ldCells r4
   have hget2 : (St.mk ((viewAll st bsF).tm.filter (fun p => keepL ops.toList J ((needs ops.toList []).getD j 0) p.1)) st1.rt).get (.tmp B) = some (.v (.ptr r j0)) := by
    show St.tv _ B = _
    unfold St.tv
    have : look ((viewAll st bsF).tm.filter (fun p => keepL ops.toList J ((needs ops.toList []).getD j 0) p.1)) B = some (.v (.ptr r j0)) := by
     rw [look_filterK, if_pos hkB]
     exact hB
    rw [this]
   subst q8
   rw [hop', htv2]
   rw [qop_load, hti]
   simp only [Tr.ofO, hget2, TV.av?, St.load]
   have hld2 : (St.mk ((viewAll st bsF).tm.filter (fun p => keepL ops.toList J ((needs ops.toList []).getD j 0) p.1)) st1.rt).ldCells r j0 ti.ks.length = some lB := by
    rw [ld_rt (st := st1) (st' := St.mk ((viewAll st bsF).tm.filter (fun p => keepL ops.toList J ((needs ops.toList []).getD j 0) p.1)) st1.rt) rfl]
    exact hld
   rw [hld2]
   simp only [r5, Tr.run]
  have hdn : Dst cx a d := hsz.dst (k2.mem hp).1
  have hfree : (st1.withTm (view st S bsF).tm).free d = true := l2
  have hext : Ext ⟨(viewAll st bsF).tm.filter (fun p => keepL ops.toList J ((needs ops.toList []).getD j 0) p.1), st1.rt⟩ (st1.withTm (view st S bsF).tm) := by
   refine ⟨fun t' tv' ht' => ?_, fun r R hR => hR⟩
   have ht' : look ((viewAll st bsF).tm.filter (fun p => keepL ops.toList J ((needs ops.toList []).getD j 0) p.1)) t' = some tv' := ht'
   rw [look_filterK] at ht'
   split at ht'
   · rename_i hk
     show look (view st S bsF).tm t' = some tv'
     rw [hlook S _ t' hS hnd hk]
     exact ht'
   · simp at ht'
  unfold wpOp
  have hwant : Region.wanted o' (yielded ops a.tmps) = true := by simp [Region.wanted, noGuard hng (by rw [Array.getElem?_toList]; exact ho')]
  simp only [ho', hwant, if_true]
  refine .inl ?_
  refine qop_sound hT hga hext hr (hnm1 S).cons hd hdn hfree (p := (tv, none)) hq _ _ fun Z' g' v' w' hr' => hnext Z' g' _ w' ?_ (hsz.put _ _)
  refine hr'.swap (fun r => rfl) fun t' tv' ht' => ?_
  have key : look ((st1.withTm (view st S bsF).tm).bindT d (tv, none)).tm t' = some tv' := by
   rw [bindT_tm]
   have ht' : look (view st (S ||| 2 ^ j) bsF).tm t' = some tv' := ht'
   rw [view_tm _ k2] at ht'
   have old : ¬ d = t' → (∃ i p, (i, t', p) ∈ bsF ∧ S.testBit i = true ∧ p.1 = tv') ∨ look st.tm t' = some tv' → (if d = t' then some tv else look (st1.withTm (view st S bsF).tm).tm t') = some tv' := fun hdt hh => by
    rw [if_neg hdt]
    exact (view_tm _ k2 _ _).2 hh
   rcases ht' with ⟨i', p', h1, h2, h3⟩ | h1
   · by_cases hij : j = i'
     · obtain ⟨_, e2, e3⟩ := k2.uniq hp h1 (.inl hij)
       subst e2
       subst e3
       rw [if_pos rfl, ← hpt, h3]
     · refine old (fun e => hij (k2.uniq hp h1 (.inr e)).1) (.inl ⟨i', p', h1, ?_, h3⟩)
       rw [testBit_or_pow] at h2
       simpa [hij] using h2
   · exact old (fun e => by subst e; rw [(k2.mem hp).2.1] at h1; simp at h1) (.inr h1)
  exact hr'.tm t' tv' key
 ·
  intro fuel listed S a w Z g hls hl hfuel hS hr hsz
  have hS' : view st S bsF = viewAll st bsF := (viewAll_of fun e he => by rw [hS]; simpa using hidx e he).symm
  have hr : Rel cx Z g st1 a w := by
   rw [hst1']
   have hr : Rel cx Z g (st1.withTm (view st S bsF).tm) a w := hr
   rw [hS'] at hr
   exact hr
  have hn1 : NoMay st1 := by
   rw [hst1']
   exact fun t tv ht => hNA t tv ht
  obtain ⟨i2, bs2, m1, m2, m3, m4, m5, m6, m7, m8⟩ := regT_seg (ops := ops) (ns := needs ops.toList []) (i0 := i1 + 1) hT hga hn1 _ (i1 + 1) rfl hi (Nat.le_refl _) [] st' ⟨trivial, hn1.MB, fun e he => by simp at he, fun _ _ _ _ he => by simp at he⟩ hrun
  refine reg_any (cx := cx) (Q := QO cx E (.nrm st')) hT hga hW hed (stF := st') (fun Z g a w hr hn hs => ⟨hn, hs, Z, g, hr⟩) fuel listed (2 ^ (i1 + 1) - 1) (i1 + 1) i2 st1 bs2 a w Z g hls (fun k hk => ?_) hfuel (fun k hk => by rw [low_bits]; simpa using hk) (fun k hk => by rw [low_bits]; simp; omega) (fun k hk b hb => ?_) m1 hn1 m2 (fun e he => ⟨(m4 e he).1, (m4 e he).2.1⟩) m5 m7 m8 ?_ hsz
  · rw [hl k hk, low_bits]
    by_cases hh : k ≤ i1
    · simp [hh]; omega
    · simp [hh]; omega
  · rw [low_bits] at hk ⊢
    simp only [decide_eq_true_eq] at hk ⊢
    have hbk : b < k := by
     revert b
     induction k using Nat.strongRecOn with
     | _ k ihk =>
       intro b hb
       have hks : k < ops.size := by omega
       obtain ⟨e, h1, h2, h3⟩ := needs_bit ops.toList [] k ops[k] b (by rw [Array.getElem?_toList]; simp [hks]) (by simpa using hb)
       have hon := edgesOk_spec ops.toList 0 hed k ops[k] (by rw [Array.getElem?_toList]; simp [hks]) e h1 h2
       rw [Nat.zero_add] at hon
       rcases h3 with h3 | ⟨_, h3⟩
       · omega
       · have := ihk e.on hon (by omega) b h3
         omega
    omega
  · rw [view_none fun e he => by rw [low_bits]; have := (m4 e he).1; simp; omega]
    exact hr
 · simp [Array.getD_eq_getD_getElem?, hk]
 · simp only [cond_false, Nat.or_zero]
   rw [cnt_zero]
   exact Nat.le_refl _
 · simp at hk
 · simp only [cond_false]
   rw [view_none fun e _ => Nat.zero_testBit _]
   exact hr.world rfl rfl rfl rfl
theorem late_sem (hT : TTok P E) (hga : GAok P E) (hm : P.follows .mixedOrders = true) {id : Nat} {ops : Array Oper} {i : Nat} {J : List Nat} : RegSem P E (.region id ops true) (lateT E ops i J) :=
 fun _ _ _ _ _ h hrun => wp_region_any hm (late_any hT hga h hrun)
theorem late_of (hT : TTok P E) (hga : GAok P E) (hm : P.follows .mixedOrders = true) {c : Code} {id : Nat} {i : Nat} {J : List Nat} (h : c = .region id (opsOf c) true) : RegSem P E c (lateT E (opsOf c) i J) := by
 intro cx a w st st' hg hr
 rw [h]
 exact late_sem hT hga hm cx a w st st' hg hr
theorem regSem_rg {E0 : En} {c : Code} {F : St → Tr St} (hn : E.nt = E0.nt) (hp : E.pins = E0.pins) (h : RegSem P E0 c F) : RegSem P E c F := by
 have hf : ∀ (cx : Cx P) (a : Act), Fit cx E a ↔ Fit cx E0 a := fun cx a => by unfold Fit; rw [hn, hp]
 have hg : ∀ (cx : Cx P) (st : St) (a : Act) (w : World), Good cx E st a w ↔ Good cx E0 st a w := fun cx st a w => by unfold Good; rw [hf]
 intro cx a w st st' hgd hr
 refine wp_mono (h cx a w st st' ((hg _ _ _ _).1 hgd) hr) fun e a' w' hq => ?_
 cases e <;> first | exact hq.elim | exact (hg _ _ _ _).2 hq
end
end Go.Av
namespace Go.Av
open Go.RowKit (Below)
def pureOp (o : Oper) : Bool := match o.op, o.guard, o.dst with | .extract (.tmp _) _, none, some _ => true | .move (.tmp _), none, some _ => true | _, _, _ => false
def exOf (ex : List (Nat × Nat)) (i : Nat) : List Edge := (ex.filter fun p => Nat.beq p.1 i).map fun p => ⟨p.2, .data⟩
def addE (ex : List (Nat × Nat)) : List Oper → Nat → List Oper
 | [], _ => []
 | o :: r, i => { o with after := o.after ++ (exOf ex i).toArray } :: addE ex r (i + 1)
theorem addE_get (ex : List (Nat × Nat)) : ∀ (l : List Oper) (i k : Nat), (addE ex l i)[k]? = (l[k]?).map fun o => { o with after := o.after ++ (exOf ex (i + k)).toArray }
 | [], _, _ => by simp [addE]
 | o :: r, i, 0 => by simp [addE]
 | o :: r, i, k + 1 => by
   rw [addE, List.getElem?_cons_succ, addE_get ex r (i + 1) k, List.getElem?_cons_succ, show i + 1 + k = i + (k + 1) by omega]
theorem addE_len (ex : List (Nat × Nat)) : ∀ (l : List Oper) (i : Nat), (addE ex l i).length = l.length
 | [], _ => rfl
 | o :: r, i => by simp [addE, addE_len ex r]
def addA (ex : List (Nat × Nat)) (ops : Array Oper) : Array Oper := (addE ex ops.toList 0).toArray
theorem addA_get (ex : List (Nat × Nat)) (ops : Array Oper) (k : Nat) : (addA ex ops)[k]? = (ops[k]?).map fun o => { o with after := o.after ++ (exOf ex k).toArray } := by
 rw [addA, List.getElem?_toArray, addE_get, Array.getElem?_toList, Nat.zero_add]
theorem addA_size (ex : List (Nat × Nat)) (ops : Array Oper) : (addA ex ops).size = ops.size := by simp [addA, addE_len]
def hoistOk (ops : Array Oper) (ex : List (Nat × Nat)) : Bool :=
 Region.noSelect ops && ex.all fun p => (match ops[p.2]?, ops[p.1]? with
  | some oj, some oi => pureOp oj && (exOf ex p.2).isEmpty && (oj.after.toList.all fun e => !bindsAny e || oi.after.toList.any fun e' => bindsAny e' && Nat.beq e'.on e.on) &&
     (List.range ops.size).all fun k => Nat.beq k p.2 || (match ops[k]? with | some ok => (ok.after.toList.any fun e => bindsAny e && Nat.beq e.on p.2) || ((oj.after.toList.any fun e => bindsAny e && Nat.beq e.on k) || oj.apart ops ok) | none => true)
  | _, _ => false)
section
variable {P : Program} {ops : Array Oper} {Q : Exit → Act → World → Prop}
theorem yielded_addA (ex : List (Nat × Nat)) (ops : Array Oper) (tmps : Array Value) : yielded (addA ex ops) tmps = yielded ops tmps := by
 funext g
 unfold yielded
 rw [addA_get]
 cases ops[g]? <;> rfl
theorem wpOp_addA {ex : List (Nat × Nat)} {k : Nat} {K : Act → World → Prop} {a : Act} {w : World} (h : wpOp P (addA ex ops) Q k K a w) : wpOp P ops Q k K a w := by
 unfold wpOp at h ⊢
 rw [addA_get, yielded_addA] at h
 cases ho : ops[k]? with
 | none => rw [ho] at h; exact h
 | some o => rw [ho] at h; exact h
theorem pure_yields {o : Oper} (hp : pureOp o = true) (hL : ¬ LetsOut Q) (hQ : ∀ c a w, ¬ Q (.panic c) a w) {k : Nat} (ho : ops[k]? = some o) {K : Act → World → Prop} {a : Act} {w : World} (h : wpOp P ops Q k K a w) :
 ∃ v, Yields P ops o v a ∧ K (a.put o.dst v) w := by
 unfold pureOp at hp
 split at hp
 · rename_i t i d h1 h2 h3
   have hw : Region.wanted o (yielded ops a.tmps) = true := by simp [Region.wanted, h2]
   unfold wpOp at h
   rw [ho] at h
   simp only [hw, if_true] at h
   have h := h.resolve_right fun h => hL h.2
   unfold Oper.wp at h
   have he : ∀ w, (execOp a.eval o).run P w = (match a.eval (.tmp t) with | .tuple vs => (match vs[i]? with | some v => Result.ok (.value v) w | none => (execOp a.eval o).run P w) | _ => (execOp a.eval o).run P w) := fun w => by
    split
    · rename_i vs hv
      split
      · rename_i v hi
        simp [execOp, h1, hv, Instr.extract, hi]
      · rfl
    · rfl
   cases hv : a.eval (.tmp t) with
   | tuple vs =>
     cases hi : vs[i]? with
     | some v =>
       refine ⟨v, .inl ⟨hw, fun w => by rw [he w, hv]; simp only [hi]⟩, ?_⟩
       rw [he w, hv] at h
       simp only [hi, Oper.upon] at h
       exact h
     | none =>
       exfalso
       simp [execOp, h1, hv, Instr.extract, hi, Oper.upon] at h
   | _ =>
     exfalso
     simp [execOp, h1, hv, Instr.extract, Oper.upon] at h
 · rename_i t d h1 h2 h3
   have hw : Region.wanted o (yielded ops a.tmps) = true := by simp [Region.wanted, h2]
   unfold wpOp at h
   rw [ho] at h
   simp only [hw, if_true] at h
   have h := h.resolve_right fun h => hL h.2
   have he : ∀ w, (execOp a.eval o).run P w = .ok (.value (a.eval (.tmp t))) w := fun w => by simp [execOp, h1]
   refine ⟨a.eval (.tmp t), .inl ⟨hw, he⟩, ?_⟩
   unfold Oper.wp at h
   rw [he w, Oper.upon_value] at h
   exact h
 · simp at hp
theorem mem_exOf {ex : List (Nat × Nat)} {k : Nat} {e : Edge} (h : e ∈ exOf ex k) : ∃ p, p ∈ ex ∧ p.1 = k ∧ e.on = p.2 := by
 unfold exOf at h
 obtain ⟨p, hp, rfl⟩ := List.mem_map.1 h
 obtain ⟨h1, h2⟩ := List.mem_filter.1 hp
 exact ⟨p, h1, beq_eq h2, rfl⟩
theorem exOf_mem {ex : List (Nat × Nat)} {p : Nat × Nat} (h : p ∈ ex) : (⟨p.2, .data⟩ : Edge) ∈ exOf ex p.1 :=
 List.mem_map.2 ⟨p, List.mem_filter.2 ⟨h, Nat.beq_refl _⟩, rfl⟩
theorem ready_addA {ex : List (Nat × Nat)} {listed : Array Bool} {k : Nat} : k ∈ Region.ready .any (addA ex ops) listed ↔ k ∈ Region.ready .any ops listed ∧ ∀ p ∈ ex, p.1 = k → listed.getD p.2 false = true := by
 rw [mem_ready, mem_ready]
 constructor
 · rintro ⟨h0, o', ho', hall⟩
   rw [addA_get] at ho'
   cases ho : ops[k]? with
   | none => rw [ho] at ho'; simp at ho'
   | some o =>
     rw [ho] at ho'
     simp only [Option.map_some, Option.some.injEq] at ho'
     subst ho'
     refine ⟨⟨h0, o, rfl, fun e he hb => hall e (by simp [he]) hb⟩, fun p hp hk => ?_⟩
     subst hk
     exact hall ⟨p.2, .data⟩ (by simp [exOf_mem hp]) rfl
 · rintro ⟨⟨h0, o, ho, hall⟩, hex⟩
   refine ⟨h0, _, by rw [addA_get, ho]; rfl, fun e he hb => ?_⟩
   simp only [Array.mem_append, List.mem_toArray] at he
   rcases he with he | he
   · exact hall e he hb
   · obtain ⟨p, hp, h1, h2⟩ := mem_exOf he
     rw [h2]
     exact hex p hp h1
theorem hoist {ex : List (Nat × Nat)} (hok : hoistOk ops ex = true) (hL : ¬ LetsOut Q) (hQ : ∀ c a w, ¬ Q (.panic c) a w) :
 ∀ (fuel : Nat) (listed : Array Bool) (a : Act) (w : World), listed.size = ops.size → wpAny P .any (addA ex ops) Q fuel listed a w → wpAny P .any ops Q fuel listed a w := by
 unfold hoistOk at hok
 simp only [Bool.and_eq_true] at hok
 obtain ⟨hns, hok⟩ := hok
 have hsel := Region.noSelect_spec hns
 have facts : ∀ p ∈ ex, ∃ oj oi, ops[p.2]? = some oj ∧ ops[p.1]? = some oi ∧ pureOp oj = true ∧ exOf ex p.2 = [] ∧ (∀ e ∈ oj.after, bindsAny e = true → ∃ e' ∈ oi.after, bindsAny e' = true ∧ e'.on = e.on) ∧
  ∀ k ok, ops[k]? = some ok → k ≠ p.2 → (∀ e ∈ ok.after, Region.binds .any e = true → e.on ≠ p.2) → (∃ e ∈ oj.after, bindsAny e = true ∧ e.on = k) ∨ oj.apart ops ok = true := by
  intro p hp
  have h := List.all_eq_true.1 hok p hp
  cases h2 : ops[p.2]? with
  | none => rw [h2] at h; simp at h
  | some oj =>
    cases h1 : ops[p.1]? with
    | none => rw [h2, h1] at h; simp at h
    | some oi =>
      rw [h2, h1] at h
      simp only [Bool.and_eq_true] at h
      obtain ⟨⟨⟨g1, g2⟩, g3⟩, g4⟩ := h
      refine ⟨oj, oi, rfl, rfl, g1, List.isEmpty_iff.1 g2, fun e he hb => ?_, fun k ok hk hne hno => ?_⟩
      · have := List.all_eq_true.1 g3 e (by simpa using he)
        rw [hb] at this
        simp only [Bool.not_true, Bool.false_or] at this
        obtain ⟨e', he', h'⟩ := List.any_eq_true.1 this
        simp only [Bool.and_eq_true] at h'
        exact ⟨e', by simpa using he', h'.1, beq_eq h'.2⟩
      · have hlt : k < ops.size := (Array.getElem?_eq_some_iff.1 hk).1
        have := List.all_eq_true.1 g4 k (List.mem_range.2 hlt)
        rw [hk] at this
        simp only [Bool.or_eq_true] at this
        rcases this with h | h | h | h
        · exact absurd (beq_eq h) hne
        · obtain ⟨e', he', h'⟩ := List.any_eq_true.1 h
          simp only [Bool.and_eq_true] at h'
          exact absurd (beq_eq h'.2) (hno e' (by simpa using he') h'.1)
        · obtain ⟨e', he', h'⟩ := List.any_eq_true.1 h
          simp only [Bool.and_eq_true] at h'
          exact .inl ⟨e', by simpa using he', h'.1, beq_eq h'.2⟩
        · exact .inr h
 have hR : ∀ (listed : Array Bool), listed.size = ops.size → ∀ k, k ∈ Region.ready .any ops listed → ∀ p ∈ ex, p.1 = k → listed.getD p.2 false ≠ true → p.2 ∈ Region.ready .any (addA ex ops) listed ∧ p.2 ∈ Region.ready .any ops listed := by
  intro listed hls k hk p hp hpk hun
  obtain ⟨oj, oi, h2, h1, g1, g2, g3, g4⟩ := facts p hp
  obtain ⟨_, o, ho, hall⟩ := mem_ready.1 hk
  rw [← hpk, h1] at ho
  cases ho
  have hlt : p.2 < listed.size := by rw [hls]; exact (Array.getElem?_eq_some_iff.1 h2).1
  have hr : p.2 ∈ Region.ready .any ops listed := by
   refine mem_ready.2 ⟨?_, oj, h2, fun e he hb => ?_⟩
   · simp only [Array.getD_eq_getD_getElem?, Array.getElem?_eq_getElem hlt, Option.getD_some] at hun ⊢
     simpa using hun
   · obtain ⟨e', he', hb', h'⟩ := g3 e he hb
     rw [← h']
     exact hall e' he' hb'
  refine ⟨ready_addA.2 ⟨hr, fun q hq hqk => ?_⟩, hr⟩
  have := exOf_mem hq
  rw [hqk, g2] at this
  simp at this
 intro fuel
 induction fuel with
 | zero =>
   intro listed a w hls H
   refine ⟨List.eq_nil_iff_forall_not_mem.2 fun k hk => ?_, H.2⟩
   by_cases hall : ∀ p ∈ ex, p.1 = k → listed.getD p.2 false = true
   · have := ready_addA.2 ⟨hk, hall⟩
     rw [H.1] at this
     simp at this
   · simp only [Classical.not_forall] at hall
     obtain ⟨p, hp, hpk, hun⟩ := hall
     have := (hR listed hls k hk p hp hpk hun).1
     rw [H.1] at this
     simp at this
 | succ fuel ih =>
   intro listed a w hls H
   by_cases hex : ∃ p, p ∈ ex ∧ p.2 ∈ Region.ready .any ops listed
   · obtain ⟨p, hp, hr⟩ := hex
     obtain ⟨oj, oi, h2, h1, g1, g2, g3, g4⟩ := facts p hp
     have hr2 : p.2 ∈ Region.ready .any (addA ex ops) listed := ready_addA.2 ⟨hr, fun q hq hqk => by
      have := exOf_mem hq
      rw [hqk, g2] at this
      simp at this⟩
     obtain ⟨v, hy, hK⟩ := pure_yields g1 hL hQ h2 (wpOp_addA (H.2 p.2 hr2))
     refine wpAny_first h2 hsel (fun c a w h => (hQ _ _ _ h).elim) fuel listed a w (fun k ok hk hne hun hno => (g4 k ok hk hne hno).resolve_left fun ⟨e, he, hb, hek⟩ => ?_) hr hy (ih _ _ _ (by simpa using hls) hK)
     obtain ⟨_, o, ho, hall⟩ := mem_ready.1 hr
     rw [h2] at ho
     cases ho
     have h5 := hall e he hb
     rw [hek] at h5
     have hlt : k < listed.size := by rw [hls]; exact (Array.getElem?_eq_some_iff.1 hk).1
     simp only [Array.getD_eq_getD_getElem?, Array.getElem?_eq_getElem hlt, Option.getD_some] at hun h5
     rw [h5] at hun
     simp at hun
   · have hsub : ∀ k, k ∈ Region.ready .any ops listed → k ∈ Region.ready .any (addA ex ops) listed := fun k hk => by
      refine ready_addA.2 ⟨hk, fun p hp hpk => ?_⟩
      by_cases hun : listed.getD p.2 false = true
      · exact hun
      · exact absurd ⟨p, hp, (hR listed hls k hk p hp hpk hun).2⟩ hex
     refine ⟨fun h0 => H.1 (List.eq_nil_iff_forall_not_mem.2 fun k hk => ?_), fun k hk => ?_⟩
     · have := (ready_addA.1 hk).1
       rw [h0] at this
       simp at this
     · exact wpOp_mono (fun a' w' h => ih _ a' w' (by simpa using hls) h) (wpOp_addA (H.2 k (hsub k hk)))
end
section
variable {P : Program} {E : En}
def hoistT (E : En) (ops : Array Oper) (ex : List (Nat × Nat)) (st : St) : Tr St :=
 bif hoistOk ops ex && edgesOk (addE ex ops.toList 0) 0 then regT E true (addE ex ops.toList 0) (needs (addE ex ops.toList 0) []) (addE ex ops.toList 0) 0 st [] else .fail
theorem hoist_sem (hT : TTok P E) (hga : GAok P E) (hm : P.follows .mixedOrders = true) {id : Nat} {ops : Array Oper} {ex : List (Nat × Nat)} : RegSem P E (.region id ops true) (hoistT E ops ex) := by
 intro cx a w st st' h hrun
 have hW := wsound hT hga
 unfold hoistT at hrun
 cases hc : hoistOk ops ex && edgesOk (addE ex ops.toList 0) 0 with
 | false => rw [hc] at hrun; simp [Tr.run] at hrun
 | true =>
   rw [hc] at hrun
   simp only [cond_true] at hrun
   simp only [Bool.and_eq_true] at hc
   obtain ⟨hok, hed⟩ := hc
   obtain ⟨h1, h2, Z, g, h3⟩ := h
   refine wp_region_any hm ?_
   refine hoist hok (fun ⟨a, w, hq⟩ => hq) (fun c a w hq => hq) ops.size _ a _ (by simp) ?_
   have e1 : (addA ex ops).toList = addE ex ops.toList 0 := by simp [addA]
   have hs := addA_size ex ops
   rw [← e1] at hrun hed
   obtain ⟨i1, bsF, k1, k2, k3, k4, k5, k6, k7, k8⟩ := regT_seg (ops := addA ex ops) (ns := needs (addA ex ops).toList []) (i0 := 0) hT hga h1 _ 0 rfl (Nat.zero_le _) (Nat.le_refl _) [] st' ⟨trivial, h1.MB, fun e he => by simp at he, fun _ _ _ _ he => by simp at he⟩ hrun
   refine reg_any (ops := addA ex ops) (cx := cx) (Q := QO cx E (.nrm st')) hT hga hW hed (stF := st') (fun Z g a w hr hn hs => ⟨hn, hs, Z, g, hr⟩) ops.size (Array.replicate ops.size false) 0 0 i1 st bsF a _ Z g (by simp [hs]) (fun k hk => ?_) (by rw [hs, cnt_zero]; exact Nat.le_refl _) (fun k hk => by omega) (fun k _ => Nat.zero_testBit k) (fun k hk => by rw [Nat.zero_testBit] at hk; simp at hk) k1 h1 k2 (fun e he => ⟨(k4 e he).1, (k4 e he).2.1⟩) k5 k7 k8 ?_ h2
   · rw [Nat.zero_testBit]
     rw [hs] at hk
     simp [Array.getD_eq_getD_getElem?, hk]
   · rw [view_none fun e _ => Nat.zero_testBit _]
     exact h3.world rfl rfl rfl rfl
theorem hoist_of (hT : TTok P E) (hga : GAok P E) (hm : P.follows .mixedOrders = true) {c : Code} {id : Nat} {ex : List (Nat × Nat)} (h : c = .region id (opsOf c) true) : RegSem P E c (hoistT E (opsOf c) ex) := by
 rw [h]
 exact hoist_sem hT hga hm
def hlT (E : En) (ops : Array Oper) (ex : List (Nat × Nat)) (i : Nat) (J : List Nat) (st : St) : Tr St := bif hoistOk ops ex then lateT E (addA ex ops) i J st else .fail
theorem hl_sem (hT : TTok P E) (hga : GAok P E) (hm : P.follows .mixedOrders = true) {id : Nat} {ops : Array Oper} {ex : List (Nat × Nat)} {i : Nat} {J : List Nat} : RegSem P E (.region id ops true) (hlT E ops ex i J) := by
 intro cx a w st st' h hrun
 unfold hlT at hrun
 cases hok : hoistOk ops ex with
 | false => rw [hok] at hrun; simp [Tr.run] at hrun
 | true =>
   rw [hok] at hrun
   refine wp_region_any hm ?_
   refine hoist hok (fun ⟨a, w, hq⟩ => hq) (fun c a w hq => hq) ops.size _ a _ (by simp) ?_
   have := late_any hT hga h hrun
   rwa [addA_size] at this
theorem hl_of (hT : TTok P E) (hga : GAok P E) (hm : P.follows .mixedOrders = true) {c : Code} {id : Nat} {ex : List (Nat × Nat)} {i : Nat} {J : List Nat} (h : c = .region id (opsOf c) true) : RegSem P E c (hlT E (opsOf c) ex i J) := by
 rw [h]
 exact hl_sem hT hga hm
end
end Go.Av
namespace Go.Av
open Go.RowKit (Below)
section
variable {P : Program} {E : En} {ops : Array Oper} {P : Program} {cx : Cx P} {Q : Exit → Act → World → Prop}
end
end Go.Av
namespace Go.Av
open Go.RowKit (Below)
section
variable {P : Program} {w w' : World}
end
end Go.Av
namespace Go.Av
open Go.RowKit (Below)
section
variable {P : Program} {E : En} {cx : Cx P} {Z : Nat → Prop} {g : Gh} {st v : St} {a : Act} {w : World}
theorem eval_put_self {a : Act} {d : Nat} {v : Value} (hd : d < a.tmps.size) : (a.put (some d) v).eval (.tmp d) = v := by
 simp [Act.put, Act.eval, Array.getD_eq_getD_getElem?, hd]
end
end Go.Av
namespace Go.Av
open Go.RowKit (Below)
section
variable {P : Program} {E : En}
end
end Go.Av
namespace Go.Av
open Go.RowKit (Below)
def isIntV (v : Value) : Prop := ∃ k n, v = .int k n
def intMove (ints : List Nat) (o : Oper) (d : Nat) : Bool := match o.op, o.guard, o.dst with | .move (.tmp b), none, some d' => memN ints b && Nat.beq d' d | _, _, _ => false
def dstsNew (l : List Oper) (ints : List Nat) : Bool := (List.range l.length).all fun i => match dstOf l i with | some d => !memN ints d && (List.range l.length).all fun k => Nat.beq k i || (match dstOf l k with | some d' => !Nat.beq d' d | none => true) | none => true
def IntsOf (ops : Array Oper) (ints : List Nat) (listed : Array Bool) (a : Act) : Prop :=
 (∀ (k : Nat) (o : Oper) (d : Nat), ops[k]? = some o → o.dst = some d → d < a.tmps.size) ∧ (∀ b ∈ ints, isIntV (a.eval (.tmp b))) ∧ ∀ (k : Nat) (o : Oper) (d : Nat), ops[k]? = some o → intMove ints o d = true → listed.getD k false = true → isIntV (a.eval (.tmp d))
theorem memN_of : ∀ {l : List Nat} {n : Nat}, n ∈ l → memN l n = true
 | x :: r, n, h => by
   simp only [memN, Bool.or_eq_true]
   rcases List.mem_cons.1 h with h | h
   · subst h; exact .inl (Nat.beq_refl _)
   · exact .inr (memN_of h)
section
variable {P : Program} {ops : Array Oper} {Q : Exit → Act → World → Prop} {ints : List Nat}
theorem dstsNew_spec (h : dstsNew ops.toList ints = true) {k : Nat} {o : Oper} {d : Nat} (ho : ops[k]? = some o) (hd : o.dst = some d) : (∀ b ∈ ints, b ≠ d) ∧ ∀ (k' : Nat) (o' : Oper), ops[k']? = some o' → o'.dst = some d → k' = k := by
 have hk : k < ops.toList.length := by rw [Array.length_toList]; exact (Array.getElem?_eq_some_iff.1 ho).1
 have h1 := List.all_eq_true.1 h k (List.mem_range.2 hk)
 have e : dstOf ops.toList k = some d := by unfold dstOf; rw [Array.getElem?_toList, ho]; exact hd
 rw [e] at h1
 simp only [Bool.and_eq_true, Bool.not_eq_true'] at h1
 refine ⟨fun b hb hbd => ?_, fun k' o' ho' hd' => ?_⟩
 · subst hbd
   have : memN ints b = true := memN_of hb
   rw [h1.1] at this
   simp at this
 · have hk' : k' < ops.toList.length := by rw [Array.length_toList]; exact (Array.getElem?_eq_some_iff.1 ho').1
   have h2 := List.all_eq_true.1 h1.2 k' (List.mem_range.2 hk')
   have e' : dstOf ops.toList k' = some d := by unfold dstOf; rw [Array.getElem?_toList, ho']; exact hd'
   rw [e'] at h2
   simp only [Bool.or_eq_true, Bool.not_eq_true'] at h2
   rcases h2 with h2 | h2
   · exact beq_eq h2
   · exact absurd rfl (Nat.ne_of_beq_eq_false h2)
theorem intMove_spec {o : Oper} {d : Nat} (h : intMove ints o d = true) : ∃ b, o.op = .move (.tmp b) ∧ o.guard = none ∧ o.dst = some d ∧ b ∈ ints := by
 unfold intMove at h
 split at h
 · rename_i b d' h1 h2 h3
   simp only [Bool.and_eq_true] at h
   have := beq_eq h.2
   subst this
   exact ⟨b, h1, h2, h3, memN_mem h.1⟩
 · simp at h
theorem eval_defers (a : Act) (l : List Deferred) (x : Operand) : ({ a with defers := l } : Act).eval x = a.eval x := by cases x <;> rfl
theorem IntsOf.put (hnew : dstsNew ops.toList ints = true) {k : Nat} {o : Oper} (ho : ops[k]? = some o) {listed : Array Bool} {a : Act} (hI : IntsOf ops ints listed a) {v : Value} (hv : ∀ d, intMove ints o d = true → isIntV v) : IntsOf ops ints (listed.setIfInBounds k true) (a.put o.dst v) := by
 cases hd : o.dst with
 | none =>
   refine ⟨hI.1, fun b hb => hI.2.1 b hb, fun k' o' d' ho' hm hl => ?_⟩
   have hne : k ≠ k' := fun e => by
    subst e
    rw [ho] at ho'; cases ho'
    obtain ⟨_, _, _, h3, _⟩ := intMove_spec hm
    rw [hd] at h3; simp at h3
   rw [getD_set_ne false hne] at hl
   exact hI.2.2 k' o' d' ho' hm hl
 | some d =>
   obtain ⟨n1, n2⟩ := dstsNew_spec hnew ho hd
   have hev : ∀ t, t ≠ d → (a.put (some d) v).eval (.tmp t) = a.eval (.tmp t) := fun t ht => Act.eval_put fun d' e e2 => by cases e; cases e2; exact ht rfl
   refine ⟨fun k' o' d' ho' hd' => by rw [put_size]; exact hI.1 k' o' d' ho' hd', fun b hb => by rw [hev b (n1 b hb)]; exact hI.2.1 b hb, fun k' o' d' ho' hm hl => ?_⟩
   obtain ⟨b', _, _, h3, _⟩ := intMove_spec hm
   by_cases e : d' = d
   · subst e
     have := n2 k' o' ho' h3
     subst this
     rw [ho] at ho'; cases ho'
     rw [eval_put_self (hI.1 _ _ _ ho hd)]
     exact hv _ hm
   · rw [hev d' e]
     have hne : k ≠ k' := fun e2 => by
      subst e2
      rw [ho] at ho'; cases ho'
      rw [hd] at h3; cases h3; exact e rfl
     rw [getD_set_ne false hne] at hl
     exact hI.2.2 k' o' d' ho' hm hl
theorem IntsOf.defers {listed : Array Bool} {a : Act} {l : List Deferred} (hI : IntsOf ops ints listed a) : IntsOf ops ints listed { a with defers := l } :=
 ⟨hI.1, fun b hb => by rw [eval_defers]; exact hI.2.1 b hb, fun k o d ho hm hl => by rw [eval_defers]; exact hI.2.2 k o d ho hm hl⟩
end
end Go.Av
namespace Go.Av
open Go.RowKit (Below)
section
variable {w : World}
end
end Go.Av
namespace Go.Av
open Go.RowKit (Below)
section
variable {P : Program} {E : En} {cx : Cx P} {Z : Nat → Prop} {g : Gh} {st v : St} {a : Act} {w : World}
end
end Go.Av
namespace Go.Av
open Go.RowKit (Below)
section
variable {P : Program} {E : En}
end
end Go.Av
namespace Go.Av
theorem SuOK.zero {P : Program} {f : Nat} {s : Su} (h : ∀ x, s.ans x = none) : SuOK P f s := fun w Z F args x y _ _ _ _ _ hy => by
 rw [h x] at hy
 simp at hy
def Su.ro (s : Su) : Su := ⟨s.ps, s.rs, false, s.f⟩
theorem argsR_quiet {Z : Nat → Prop} {w : World} {F G : Nat → Nat → Prop} : ∀ (ps : List PK) (x : PT ps) (vs : List Value) (n m : Nat), quietP ps = true → ArgsR Z w F ps x vs n → ArgsR Z w G ps x vs m
 | [], _, [], _, _, _, _ => trivial
 | [], _, _ :: _, _, _, _, h => h.elim
 | .c _ _ :: ps, x, v :: vs, n, m, hq, h => ⟨h.1, argsR_quiet ps x.2 vs n m hq h.2⟩
 | .pt _ :: ps, x, v :: vs, n, m, hq, h => ⟨h.1, argsR_quiet ps x.2 vs n m hq h.2⟩
 | .nil :: ps, x, v :: vs, n, m, hq, h => ⟨h.1, argsR_quiet ps x vs n m hq h.2⟩
 | .fn _ _ :: ps, x, v :: vs, n, m, hq, h => ⟨h.1, argsR_quiet ps x.2 vs n m hq h.2⟩
 | .io _ _ :: _, _, _, _, _, hq, _ => by simp [quietP] at hq
 | .mv _ :: _, _, _, _, _, hq, _ => by simp [quietP] at hq
 | .c _ _ :: _, _, [], _, _, _, h => h.elim
 | .pt _ :: _, _, [], _, _, _, h => h.elim
 | .nil :: _, _, [], _, _, _, h => h.elim
 | .fn _ _ :: _, _, [], _, _, _, h => h.elim
theorem ioR_quiet {Z Z' : Nat → Prop} {w w' : World} {G : Nat → Nat → Prop} {F : Nat → Nat → Prop} : ∀ (ps : List PK) (x : PT ps) (y : IOT ps) (vs : List Value) (n m : Nat), quietP ps = true → ArgsR Z w F ps x vs n → IoR Z' w' G ps y vs m
 | [], _, _, [], _, _, _, _ => trivial
 | [], _, _, _ :: _, _, _, _, h => h.elim
 | .c _ _ :: ps, x, y, v :: vs, n, m, hq, h => ioR_quiet ps x.2 y vs n m hq h.2
 | .pt _ :: ps, x, y, v :: vs, n, m, hq, h => ioR_quiet ps x.2 y vs n m hq h.2
 | .nil :: ps, x, y, v :: vs, n, m, hq, h => ioR_quiet ps x y vs n m hq h.2
 | .fn _ _ :: ps, x, y, v :: vs, n, m, hq, h => ioR_quiet ps x.2 y vs n m hq h.2
 | .io _ _ :: _, _, _, _, _, _, hq, _ => by simp [quietP] at hq
 | .mv _ :: _, _, _, _, _, _, hq, _ => by simp [quietP] at hq
 | .c _ _ :: _, _, _, [], _, _, _, h => h.elim
 | .pt _ :: _, _, _, [], _, _, _, h => h.elim
 | .nil :: _, _, _, [], _, _, _, h => h.elim
 | .fn _ _ :: _, _, _, [], _, _, _, h => h.elim
theorem resCells_ofOwn {Z Z' : Nat → Prop} {w : World} {H H' : Nat → Nat → Prop} (hz : ∀ n b, H n b → Z' b) : ∀ (ks : List K) (x : Tl ks) (cs : List Value) (j j' : Nat), ResCells true Z w H ks x cs j → ResCells false Z' w H' ks x cs j'
 | [], _, [], _, _, _ => trivial
 | [], _, _ :: _, _, _, h => h.elim
 | .sl e ks' :: ks, x, v :: vs, j, j', h => ⟨Own.ro (.sl e ks') x.1 v (H j) (fun b hb => hz j b hb) h.1, resCells_ofOwn hz ks x.2 vs (j + 1) j' h.2⟩
 | .int k :: ks, x, v :: vs, j, j', h => ⟨RO_scalar (k := .int k) rfl h.1, resCells_ofOwn hz ks x.2 vs j j' h.2⟩
 | .bool :: ks, x, v :: vs, j, j', h => ⟨RO_scalar (k := .bool) rfl h.1, resCells_ofOwn hz ks x.2 vs j j' h.2⟩
 | .str :: ks, x, v :: vs, j, j', h => ⟨RO_scalar (k := .str) rfl h.1, resCells_ofOwn hz ks x.2 vs j j' h.2⟩
 | .sl _ _ :: _, _, [], _, _, h => h.elim
 | .int _ :: _, _, [], _, _, h => h.elim
 | .bool :: _, _, [], _, _, h => h.elim
 | .str :: _, _, [], _, _, h => h.elim
theorem resR_ofOwn {Z Z' : Nat → Prop} {w : World} {H H' : Nat → Nat → Prop} (hz : ∀ n b, H n b → Z' b) : ∀ (rs : List (Bool × List K)) (y : CT rs) (vs : List Value) (j j' : Nat), ResR true Z w H rs y vs j → ResR false Z' w H' rs y vs j'
 | [], _, [], _, _, _ => trivial
 | [], _, _ :: _, _, _, h => h.elim
 | (gg, ks) :: rs, y, v :: vs, j, j', h => by
   obtain ⟨⟨cs, e1, e2⟩, h2⟩ := h
   exact ⟨⟨cs, e1, resCells_ofOwn hz ks y.1 cs j j' e2⟩, resR_ofOwn hz rs y.2 vs _ _ h2⟩
 | _ :: _, _, [], _, _, h => h.elim
theorem Su.ro_ans (s : Su) (x : PT s.ps) : s.ro.ans x = s.ans x := by
 obtain ⟨ps, rs, fr, f⟩ := s
 cases f <;> rfl
theorem SuOK.ro {P : Program} {f : Nat} {s : Su} (hq : quietP s.ps = true) (hf : s.fresh = true) (h : SuOK P f s) : SuOK P f s.ro := by
 intro w Z F args x y hgl hargs hZ hF hd hy
 have hy : s.ans x = some y := (s.ro_ans x).symm.trans hy
 have h1 := h w Z (fun _ _ => False) args x y hgl (argsR_quiet s.ps x args.toList 0 0 hq hargs) hZ (fun _ _ h => h.elim) (fun _ _ _ h => h.elim) hy
 rw [hf] at h1
 refine Upon.mono h1 fun v w' ⟨Z', H, vs, e, ha, _, hr⟩ => ?_
 have hnew : ∀ n b, H n b → b < w'.heap.size ∧ w.heap.size ≤ b := fun n b hb => by
  obtain ⟨q1, _, q3⟩ := ha.fp n b hb
  rcases q3 with ⟨_, q3⟩ | q3
  · exact q3.elim
  · exact ⟨q1, q3⟩
 refine ⟨fun b => Z' b ∨ ∃ n, H n b, fun _ _ => False, vs, e, ?_, ioR_quiet s.ps x y.1 args.toList 0 0 hq hargs, resR_ofOwn (fun n b hb => .inr ⟨_, hb⟩) _ _ _ _ _ hr⟩
 exact { os := ha.os, tape := ha.tape, output := ha.output, size := ha.size
         block := fun b hb _ => ha.block b hb fun _ h => h
         z := fun b hb => .inl (ha.z b hb)
         zone := fun b hb => by
          rcases hb with hb | ⟨n, hb⟩
          · exact ha.zone b hb
          · exact ⟨(hnew n b hb).1, .inr (hnew n b hb).2⟩
         fp := fun n b h => h.elim
         disj := fun n m b h => h.elim }
end Go.Av
namespace Go.Av
open Go.RowKit (Below)
section
variable {P : Program} {w : World} {E : En}
end
end Go.Av
namespace Go.Av
open Go.RowKit (Below)
section
variable {P : Program} {E : En} {cx : Cx P} {Z : Nat → Prop} {g : Gh} {st v : St} {a : Act} {w : World}
theorem NoMay.bind {st : St} (h : NoMay st) {d : Nat} {b : AV} {R : Option Rt} : NoMay (st.bindT d (.v b, R)) := fun t tv ht => by
 rw [bindT_tm] at ht
 split at ht
 · simp only [Option.some.injEq] at ht; subst ht; exact fun h => h
 · exact h t tv ht
end
end Go.Av
namespace Go.Av
open Go.RowKit (Below)
section
variable {P : Program} {E : En} {cx : Cx P} {Z : Nat → Prop} {g : Gh} {st v : St} {a : Act} {w : World}
end
end Go.Av
namespace Go.Av
section
variable {α A X Y : Type}
def goL (f : Nat → α → A → Sum A Y) (z : A → Y) : Nat → List α → A → Y
 | _, [], a => z a
 | i, x :: r, a => match f i x a with
   | .inl a' => goL f z (i + 1) r a'
   | .inr y => y
theorem loop_list_from {step : X → Option (Sum X Y)} (xs : List α) (S : Nat → A → X) (f : Nat → α → A → Sum A Y) (z : A → Y) (I : Nat → A → Prop)
 (hs : ∀ i x a, xs[i]? = some x → I i a → step (S i a) = some (match f i x a with | .inl a' => .inl (S (i + 1) a') | .inr y => .inr y))
 (hI : ∀ i x a a', xs[i]? = some x → I i a → f i x a = .inl a' → I (i + 1) a')
 (he : ∀ a, I xs.length a → step (S xs.length a) = some (.inr (z a))) :
 ∀ (ys : List α) (i : Nat) (a : A), i + ys.length = xs.length → ys = xs.drop i → I i a → loopF step (S i a) = some (goL f z i ys a)
 | [], i, a, hl, hy, h => by
   have : i = xs.length := by simpa using hl
   subst this
   exact loopF_end step (he a h)
 | x :: r, i, a, hl, hy, h => by
   have hx : xs[i]? = some x := by
    have := congrArg (·[0]?) hy
    simp only [List.getElem?_cons_zero, List.getElem?_drop, Nat.add_zero] at this
    exact this.symm
   have hr : r = xs.drop (i + 1) := by
    have := congrArg List.tail hy
    simpa using this
   have hst := hs i x a hx h
   cases hf : f i x a with
   | inl a' =>
     rw [hf] at hst
     refine loopF_step step hst ?_
     rw [goL, hf]
     exact loop_list_from xs S f z I hs hI he r (i + 1) a' (by simp only [List.length_cons] at hl; omega) hr (hI i x a a' hx h hf)
   | inr y =>
     rw [hf] at hst
     rw [goL, hf]
     exact loopF_end step hst
theorem loop_inv {step : X → Option (Sum X Y)} (xs : List α) (S : Nat → A → X) (f : Nat → α → A → Sum A Y) (z : A → Y) (I : Nat → A → Prop) {a0 : A} (h0 : I 0 a0)
 (hs : ∀ i x a, xs[i]? = some x → I i a → step (S i a) = some (match f i x a with | .inl a' => .inl (S (i + 1) a') | .inr y => .inr y))
 (hI : ∀ i x a a', xs[i]? = some x → I i a → f i x a = .inl a' → I (i + 1) a')
 (he : ∀ a, I xs.length a → step (S xs.length a) = some (.inr (z a))) : loopF step (S 0 a0) = some (goL f z 0 xs a0) :=
 loop_list_from xs S f z I hs hI he xs 0 a0 (by simp) (by simp) h0
theorem loop_list {step : X → Option (Sum X Y)} (xs : List α) (S : Nat → A → X) (f : Nat → α → A → Sum A Y) (z : A → Y) {a0 : A}
 (hs : ∀ i x a, xs[i]? = some x → step (S i a) = some (match f i x a with | .inl a' => .inl (S (i + 1) a') | .inr y => .inr y))
 (he : ∀ a, step (S xs.length a) = some (.inr (z a))) : loopF step (S 0 a0) = some (goL f z 0 xs a0) :=
 loop_inv xs S f z (fun _ _ => True) trivial (fun i x a h _ => hs i x a h) (fun _ _ _ _ _ _ _ => trivial) fun a _ => he a
theorem loop_post {step : X → Option (Sum X Y)} (xs : List α) (S : Nat → A → X) (z : A → Y) (I : Nat → A → Prop)
 (hs : ∀ i x a, xs[i]? = some x → I i a → ∃ a', step (S i a) = some (.inl (S (i + 1) a')) ∧ I (i + 1) a')
 (he : ∀ a, I xs.length a → step (S xs.length a) = some (.inr (z a))) : ∀ (n k : Nat) (a : A), k + n = xs.length → I k a → ∃ a', I xs.length a' ∧ loopF step (S k a) = some (z a')
 | 0, k, a, hk, h => by
   rw [Nat.add_zero] at hk
   subst hk
   exact ⟨a, h, loopF_end step (he a h)⟩
 | n + 1, k, a, hk, h => by
   have hx : xs[k]? = some (xs[k]'(by omega)) := List.getElem?_eq_getElem (by omega)
   obtain ⟨a1, h1, h2⟩ := hs k _ a hx h
   obtain ⟨a', h3, h4⟩ := loop_post xs S z I hs he n (k + 1) a1 (by omega) h2
   exact ⟨a', h3, loopF_step step h1 h4⟩
theorem goL_all (p : α → Bool) (y : Y) (z : Unit → Y) : ∀ (xs : List α) (i : Nat), goL (fun _ x _ => bif p x then .inl () else .inr y) z i xs () = bif xs.all p then z () else y
 | [], _ => rfl
 | x :: r, i => by
   rw [goL, List.all_cons]
   cases hp : p x with
   | true => simp only [cond_true, Bool.true_and]; exact goL_all p y z r (i + 1)
   | false => rfl
def allI (p : Nat → α → Bool) : Nat → List α → Bool
 | _, [] => true
 | i, x :: r => p i x && allI p (i + 1) r
theorem goL_allI (p : Nat → α → Bool) (y : Y) (z : Unit → Y) : ∀ (xs : List α) (i : Nat), goL (fun i x _ => bif p i x then .inl () else .inr y) z i xs () = bif allI p i xs then z () else y
 | [], _ => rfl
 | x :: r, i => by
   rw [goL, allI]
   cases hp : p i x with
   | true => simp only [cond_true, Bool.true_and]; exact goL_allI p y z r (i + 1)
   | false => rfl
theorem allI_get (p : Nat → α → Bool) : ∀ {xs : List α} {k : Nat}, allI p k xs = true → ∀ {i : Nat} {x : α}, xs[i]? = some x → p (k + i) x = true
 | [], k, _, i, x, hx => by simp at hx
 | y :: r, k, h, i, x, hx => by
   simp only [allI, Bool.and_eq_true] at h
   cases i with
   | zero => simp only [List.getElem?_cons_zero, Option.some.injEq] at hx; subst hx; exact h.1
   | succ i =>
     have := allI_get p h.2 (i := i) (x := x) (by simpa using hx)
     rwa [show k + 1 + i = k + (i + 1) by omega] at this
theorem goL_fold (f : α → A → A) (z : A → Y) : ∀ (xs : List α) (i : Nat) (a : A), goL (fun _ x a => .inl (f x a)) z i xs a = z (xs.foldl (fun a x => f x a) a)
 | [], _, _ => rfl
 | x :: r, i, a => by rw [goL, List.foldl_cons]; exact goL_fold f z r (i + 1) _
end
section
variable {α : Type}
theorem addW1 {i : Nat} (h : i ≤ big) : addW .i64 (i : Int) 1 = ((i + 1 : Nat) : Int) := by
 unfold addW
 rw [IntWalk.i64_in _ (by have : big = 140737488355328 := rfl; omega)]
 omega
theorem addW_in {a b : Int} (h1 : -4611686018427387904 ≤ a + b) (h2 : a + b ≤ 4611686018427387904) : addW .i64 a b = a + b := by
 unfold addW; rw [IntWalk.i64_in _ (by omega)]
theorem subW_in {a b : Int} (h1 : -4611686018427387904 ≤ a - b) (h2 : a - b ≤ 4611686018427387904) : subW .i64 a b = a - b := by
 unfold subW; rw [IntWalk.i64_in _ (by omega)]
theorem lt_of_get {xs : List α} {i : Nat} {x : α} (h : xs[i]? = some x) : i < xs.length := (List.getElem?_eq_some_iff.1 h).1
theorem ltI_in {xs : List α} {i : Nat} {x : α} (h : xs[i]? = some x) : ltI (i : Int) (lenI xs) = true := by
 have := lt_of_get h
 unfold ltI lenI; exact decide_eq_true (by omega)
theorem ltI_out {xs : List α} {n : Nat} (h : xs.length = n) : ltI (n : Int) (lenI xs) = false := by
 unfold ltI lenI; exact decide_eq_false (by omega)
theorem ltI_no {a b : Int} (h : ¬ a < b) : ltI a b = false := decide_eq_false h
theorem ltI_yes {a b : Int} (h : a < b) : ltI a b = true := decide_eq_true h
theorem inB_in {xs : List α} {i : Nat} {x : α} (h : xs[i]? = some x) : inB (i : Int) xs = true := by
 have := lt_of_get h
 unfold inB idxOk leI ltI; rw [decide_eq_true (by omega), decide_eq_true (by omega)]; rfl
theorem inB_lt {xs : List α} {i : Nat} (h : i < xs.length) : inB (i : Int) xs = true := by
 unfold inB idxOk leI ltI; rw [decide_eq_true (by omega), decide_eq_true (by omega)]; rfl
theorem gt_in {xs : List α} {i : Nat} {x : α} (d : α) (h : xs[i]? = some x) : gt d xs (i : Int) = x := by
 simp [gt, List.getD, h]
theorem bytI_in {xs : List UInt8} {i : Nat} {x : UInt8} (h : xs[i]? = some x) : bytI xs (i : Int) = (x.toNat : Int) := by
 simp [bytI, bytAt, List.getD, h]
theorem eqI_refl (n : Int) : eqI n n = true := by simp [eqI]
theorem eqS_refl (s : List UInt8) : eqS s s = true := by simp [eqS]
theorem mkB_in {xs : List α} {b : Nat} (hb : 0 < b) (h : xs.length * b ≤ big) : mkB b (lenI xs) = true := by
 have h1 : ((xs.length : Int) * (b : Int)) ≤ (big : Int) := by exact_mod_cast h
 unfold mkB lenI leI
 rw [decide_eq_true (Int.natCast_nonneg _), decide_eq_true h1]
 exact Nat.ble_eq_true_of_le hb
theorem repI_len {β : Type} {xs : List α} (d : β) : repI d (lenI xs) = List.replicate xs.length d := by simp [repI, lenI]
theorem gt_mid (d : α) {done : List α} {y : α} {r : List α} {i : Nat} (h : done.length = i) : gt d (done ++ y :: r) (i : Int) = y := by
 subst h; simp [gt, List.getD]
theorem stI_mid {done : List α} {x y : α} {r : List α} {i : Nat} (h : done.length = i) : stI (done ++ x :: r) (i : Int) y = done ++ y :: r := by
 subst h; simp [stI, List.set_append]
theorem inB_mid {done : List α} {y : α} {r : List α} {i : Nat} (h : done.length = i) : inB (i : Int) (done ++ y :: r) = true := by
 apply inB_lt; simp; omega
theorem ltI_mid {done : List α} {y : α} {r : List α} {i : Nat} (h : done.length = i) : ltI (i : Int) (lenI (done ++ y :: r)) = true := by
 unfold ltI lenI; exact decide_eq_true (by simp only [List.length_append, List.length_cons]; omega)
theorem drop_get {xs : List α} {i : Nat} {x : α} (h : xs[i]? = some x) : xs.drop i = x :: xs.drop (i + 1) := by
 have hl := lt_of_get h
 rw [List.drop_eq_getElem_cons hl]
 congr 1
 rw [List.getElem?_eq_getElem hl] at h
 exact Option.some.inj h
end
def szR (left : Int) (n : Nat) : Int := if (n : Int) ≤ left then left - n else -1
theorem szR_pos {left : Int} {n : Nat} (h : (n : Int) ≤ left) : szR left n = left - n := if_pos h
theorem szR_neg {left : Int} {n : Nat} (h : ¬ (n : Int) ≤ left) : szR left n = -1 := if_neg h
theorem szR_len {α : Type} {left : Int} {s : List α} (h0 : 0 ≤ left) (h1 : left ≤ 1048576) (hs : s.length ≤ big) : subW .i64 left (lenI s) = left - (s.length : Int) := by
 have : big = 140737488355328 := rfl
 exact subW_in (by unfold lenI; omega) (by unfold lenI; omega)
def wL {α : Type} (w : α → Nat) (xs : List α) : Nat := xs.length + (xs.map w).sum
def cL {α : Type} (c : α → Nat) (xs : List α) : Nat := (xs.map c).sum
theorem goL_sz {α Y : Type} (w : α → Nat) (y : Y) (z : Int → Y) : ∀ (xs : List α) (i : Nat) (a : Int), 0 ≤ a → goL (fun _ x (a : Int) => bif decide ((w x : Int) ≤ a) then Sum.inl (a - w x) else .inr y) z i xs a = if ((cL w xs : Nat) : Int) ≤ a then z (a - (cL w xs : Nat)) else y
 | [], _, a, h => by simp [goL, cL, h]
 | x :: r, i, a, h => by
   rw [goL]
   by_cases hx : (w x : Int) ≤ a
   · simp only [hx, decide_true, cond_true]
     rw [goL_sz w y z r (i + 1) (a - w x) (by omega)]
     have e : ((cL w (x :: r) : Nat) : Int) = w x + (cL w r : Nat) := by simp [cL]
     rw [e]
     by_cases h2 : ((cL w r : Nat) : Int) ≤ a - w x
     · rw [if_pos h2, if_pos (by omega)]; congr 1; omega
     · rw [if_neg h2, if_neg (by omega)]
   · simp only [hx, decide_false, cond_false]
     rw [if_neg]
     have e : ((cL w (x :: r) : Nat) : Int) = w x + (cL w r : Nat) := by simp [cL]
     rw [e]; omega
theorem cL_drop {α : Type} (c : α → Nat) {xs : List α} {i : Nat} {x : α} (h : xs[i]? = some x) : cL c (xs.drop i) = c x + cL c (xs.drop (i + 1)) := by
 rw [drop_get h]; simp [cL]
theorem cL_mem {α : Type} (c : α → Nat) : ∀ {xs : List α} {i : Nat} {x : α}, xs[i]? = some x → c x ≤ cL c xs
 | [], i, x, h => by simp at h
 | y :: r, 0, x, h => by simp at h; subst h; simp [cL]
 | y :: r, i + 1, x, h => by
   have := cL_mem c (xs := r) (i := i) (x := x) (by simpa using h)
   simp only [cL, List.map_cons, List.sum_cons] at this ⊢
   omega
theorem cL_le {α : Type} {c w : α → Nat} (h : ∀ x, c x ≤ 100 * (w x + 1)) : ∀ (xs : List α), cL c xs ≤ 100 * wL w xs
 | [] => by simp [cL]
 | x :: r => by
   have h1 := h x
   have h2 := cL_le h r
   simp only [cL, wL, List.map_cons, List.sum_cons, List.length_cons] at h2 ⊢
   omega
theorem cL_filter {α : Type} (c : α → Nat) (p : α → Bool) : ∀ (xs : List α), cL c (xs.filter p) ≤ cL c xs
 | [] => Nat.le_refl _
 | x :: r => by
   have ih := cL_filter c p r
   rw [List.filter_cons]
   simp only [cL, List.map_cons, List.sum_cons] at ih ⊢
   split
   · simp only [List.map_cons, List.sum_cons]; omega
   · omega
theorem cL_set {α : Type} (c : α → Nat) (y : α) : ∀ (xs : List α) (i : Nat) (x : α), xs[i]? = some x → c y = c x → cL c (xs.set i y) = cL c xs
 | [], i, x, h, _ => by simp at h
 | z :: r, 0, x, h, hc => by
   simp only [List.getElem?_cons_zero, Option.some.injEq] at h
   subst h
   simp [cL, hc]
 | z :: r, i + 1, x, h, hc => by
   have := cL_set c y r i x (by simpa using h) hc
   simp only [cL, List.set_cons_succ, List.map_cons, List.sum_cons] at this ⊢
   omega
theorem wL_filter {α : Type} (w : α → Nat) (p : α → Bool) (xs : List α) : wL w (xs.filter p) ≤ wL w xs :=
 Nat.add_le_add (List.length_filter_le _ _) (cL_filter w p xs)
theorem wL_stI {α : Type} (w : α → Nat) {xs : List α} {k : Int} {y : α} (d : α) (hk : inB k xs = true) (hw : w y = w (gt d xs k)) : wL w (stI xs k y) = wL w xs := by
 have h0 : 0 ≤ k ∧ k < xs.length := by
  unfold inB idxOk leI ltI at hk
  simpa using hk
 have hx : xs[k.toNat]? = some (gt d xs k) := by
  unfold gt
  rw [List.getD_eq_getElem?_getD, List.getElem?_eq_getElem (by omega)]; rfl
 have h1 : (stI xs k y).length = xs.length := by simp [stI]
 have h2 := cL_set w y xs k.toNat _ hx hw
 show (stI xs k y).length + cL w (xs.set k.toNat y) = xs.length + cL w xs
 rw [h1, h2]
theorem len_le_wL {α : Type} (w : α → Nat) (xs : List α) : xs.length ≤ wL w xs := Nat.le_add_right _ _
theorem mem_le_wL {α : Type} (w : α → Nat) {xs : List α} {y : α} (h : y ∈ xs) : w y ≤ wL w xs := by
 obtain ⟨i, hi⟩ := List.getElem?_of_mem h
 exact Nat.le_trans (cL_mem w hi) (Nat.le_add_left _ _)
def mkL {α : Type} (m : α → Int → α) (c : α → Nat) : List α → Int → List α
 | [], _ => []
 | x :: r, k => m x k :: mkL m c r (k + c x)
theorem goL_mk {α Y : Type} (m : α → Int → α) (c : α → Nat) (z : List α × Int → Y) : ∀ (xs : List α) (i : Nat) (d : List α) (k : Int), goL (fun _ x (a : List α × Int) => Sum.inl (a.1 ++ [m x a.2], a.2 + c x)) z i xs (d, k) = z (d ++ mkL m c xs k, k + (cL c xs : Nat))
 | [], _, d, k => by simp [goL, mkL, cL]
 | x :: r, i, d, k => by
   rw [goL]
   simp only
   rw [goL_mk m c z r (i + 1)]
   congr 1
   have e : ((cL c (x :: r) : Nat) : Int) = c x + (cL c r : Nat) := by simp [cL]
   rw [e]
   simp only [mkL, List.append_assoc, List.singleton_append, Prod.mk.injEq, true_and]
   omega
theorem mkL_len {α : Type} (m : α → Int → α) (c : α → Nat) : ∀ (xs : List α) (k : Int), (mkL m c xs k).length = xs.length
 | [], _ => rfl
 | x :: r, k => by simp [mkL, mkL_len m c r]
theorem mkL_getx {α : Type} (m : α → Int → α) (c : α → Nat) : ∀ (xs : List α) (k : Int) (i : Nat) (x : α), xs[i]? = some x → (mkL m c xs k)[i]? = some (m x (k + (cL c (xs.take i) : Nat)))
 | [], k, i, x, h => by simp at h
 | y :: r, k, 0, x, h => by
   simp only [List.getElem?_cons_zero, Option.some.injEq] at h
   subst h
   simp [mkL, cL]
 | y :: r, k, i + 1, x, h => by
   simp only [List.getElem?_cons_succ] at h
   have := mkL_getx m c r (k + c y) i x h
   simp only [mkL, List.getElem?_cons_succ, this, Option.some.injEq]
   congr 1
   simp [cL]; omega
theorem goL_cnt {α Y : Type} (c : α → Nat) (z : Int → Y) : ∀ (xs : List α) (i : Nat) (k : Int), goL (fun _ x (a : Int) => Sum.inl (a + (c x : Nat))) z i xs k = z (k + (cL c xs : Nat))
 | [], _, k => by simp [goL, cL]
 | x :: r, i, k => by
   rw [goL]
   simp only
   rw [goL_cnt c z r (i + 1)]
   congr 1
   simp [cL]; omega
theorem cL_take {α : Type} (c : α → Nat) {xs : List α} {i : Nat} {x : α} (h : xs[i]? = some x) : cL c (xs.take (i + 1)) = cL c (xs.take i) + c x := by
 rw [List.take_add_one, h]; simp [cL]
theorem cL_split {α : Type} (c : α → Nat) (xs : List α) (i : Nat) : cL c xs = cL c (xs.take i) + cL c (xs.drop i) := by
 have : xs = xs.take i ++ xs.drop i := (List.take_append_drop i xs).symm
 conv => lhs; rw [this]
 simp only [cL, List.map_append, List.sum_append]
theorem cL_one {α : Type} (xs : List α) : cL (fun _ => 1) xs = xs.length := by
 induction xs with
 | nil => rfl
 | cons x r ih => simp only [cL, List.map_cons, List.sum_cons, List.length_cons] at ih ⊢; omega
theorem goL_cp {α Y : Type} (z : List α → Y) : ∀ (xs : List α) (i : Nat) (d : List α), goL (fun _ x (a : List α) => Sum.inl (a ++ [x])) z i xs d = z (d ++ xs)
 | [], _, d => by simp [goL]
 | x :: r, i, d => by rw [goL]; simp only; rw [goL_cp z r (i + 1)]; simp
end Go.Av
namespace Go.Av
open Go.RowKit (Below)
mutual
def BgK : (k : K) → T k → Prop
 | .int _, _ => True
 | .bool, _ => True
 | .str, s => List.length (α := UInt8) s ≤ big
 | .sl e ks, xs => (els (e := e) (ks := ks) xs).length ≤ big ∧ ∀ y ∈ els (e := e) (ks := ks) xs, BgL ks y
def BgL : (ks : List K) → Tl ks → Prop
 | [], _ => True
 | k :: ks, x => BgK k x.1 ∧ BgL ks x.2
end
def flB (E : En) (rd : Nat → Bool) : List (Nat × Nat) → List K → Nat → Bool
 | [], [], _ => true
 | (o, u) :: r, ks, off => Nat.beq o off && (rd u && match E.ti u with
   | some tu => K.sames (ks.take tu.ks.length) tu.ks && (Nat.ble tu.ks.length ks.length && flB E rd r (ks.drop tu.ks.length) (off + tu.ks.length))
   | none => false)
 | _, _, _ => false
def rdB (E : En) : Nat → Nat → Bool
 | 0, _ => false
 | n + 1, t => match E.ti t with
   | some ti => (match ti.agg with
     | true => flB E (rdB E n) ti.flds ti.ks 0
     | false => (match ti.ks with
       | [.sl e ks] => (match E.ti e with | some te => K.sames ks te.ks && (Nat.blt 0 te.bytes && (Nat.blt 0 te.ks.length && rdB E n e)) | none => false)
       | _ => true))
   | none => false
section
variable {H : Type} {enc : TypeId × Value → H} {P : Program} {w : World} {spare : Nat → Bool} {held : Bool} {E : En}
theorem ROl_cells (w : World) : ∀ (ks : List K) (x : Tl ks) (cs : List Value) (b o : Nat), ROs (Zall w) w ks x cs → (∀ j v, cs[j]? = some v → w.cell? ⟨b, o + j, none⟩ = some v) → ROl (Zall w) w ks x b o
 | [], _, _, _, _, _, _ => trivial
 | k :: ks, x, [], b, o, h, _ => h.elim
 | k :: ks, x, v :: vs, b, o, h, hc => ⟨⟨v, hc 0 v rfl, h.1⟩, ROl_cells w ks x.2 vs b (o + 1) h.2 fun j u hu => by have := hc (j + 1) u (by simpa using hu); rwa [show o + 1 + j = o + (j + 1) by omega]⟩
theorem ROs_app (w : World) {Z : Nat → Prop} : ∀ (a b : List K) (cs cs' : List Value) (x : Tl a) (y : Tl b), ROs Z w a x cs → BgL a x → ROs Z w b y cs' → BgL b y → ∃ z : Tl (a ++ b), ROs Z w (a ++ b) z (cs ++ cs') ∧ BgL (a ++ b) z
 | [], b, [], cs', _, y, _, _, h, hb => ⟨y, h, hb⟩
 | [], b, _ :: _, cs', _, y, h, _, _, _ => h.elim
 | k :: a, b, [], cs', x, y, h, _, _, _ => h.elim
 | k :: a, b, v :: vs, cs', x, y, h, hx, h', hb => by
   obtain ⟨z, h1, h2⟩ := ROs_app w a b vs cs' x.2 y h.2 hx.2 h' hb
   exact ⟨(x.1, z), ⟨h.1, h1⟩, ⟨hx.1, h2⟩⟩
theorem choose_list {α : Type} (p : Nat → α → Prop) : ∀ (n : Nat), (∀ i, i < n → ∃ x, p i x) → ∃ xs : List α, xs.length = n ∧ ∀ i x, xs[i]? = some x → p i x
 | 0, _ => ⟨[], rfl, fun i x h => by simp at h⟩
 | n + 1, h => by
   obtain ⟨xs, h1, h2⟩ := choose_list p n fun i hi => h i (by omega)
   obtain ⟨x, hx⟩ := h n (by omega)
   refine ⟨xs ++ [x], by simp [h1], fun i y hy => ?_⟩
   by_cases hi : i < n
   · rw [List.getElem?_append_left (by omega)] at hy
     exact h2 i y hy
   · rw [List.getElem?_append_right (by omega), h1] at hy
     cases hk : i - n with
     | zero =>
       rw [hk] at hy
       simp only [List.getElem?_cons_zero, Option.some.injEq] at hy
       subst hy
       rwa [show i = n by omega]
     | succ k => rw [hk] at hy; simp at hy
theorem cells_get {base : Nat} {a : Addr} {n : Nat} {cs : List Value} (h : w.cells? base a n = some cs) : cs.length = n ∧ ∀ j v, cs[j]? = some v → w.cell? (a.add j) = some v := by
 unfold World.cells? at h
 split at h
 · refine ⟨by simpa using mapM_some_length h, fun j v hj => ?_⟩
   have hjl : j < n := by
    have := (List.getElem?_eq_some_iff.1 hj).1
    have h2 : cs.length = n := by simpa using mapM_some_length h
    omega
   have := mapM_some_get h j j (by simp [hjl])
   rw [this, hj]
 · simp at h
theorem cell_spot {a : Addr} {v : Value} (h : w.cell? a = some v) : a.spot = none ∧ a.block < w.heap.size := by
 unfold World.cell? at h
 split at h
 · rename_i c _ _ hb
   split at h
   · simp at h
   · rename_i hs
     refine ⟨by simpa using hs, ?_⟩
     rcases Nat.lt_or_ge a.block w.heap.size with hh | hh
     · exact hh
     · rw [Array.getElem?_eq_none hh] at hb; simp at hb
 · simp at h
theorem weightsAll_mem {e : TypeId} : ∀ (l : List (DataW H)) {d : DataW H}, d ∈ l → ∀ n ∈ d.weights P e, n ∈ DataW.weightsAll P e l
 | [], _, h, _, _ => by simp at h
 | x :: r, d, h, n, hn => by
   simp only [DataW.weightsAll, List.mem_append]
   rcases List.mem_cons.1 h with h | h
   · subst h; exact .inl hn
   · exact .inr (weightsAll_mem r h n hn)
theorem ROs_joined {ks a : List K} {cs : List Value} {m o : Nat} (hk : ks.take m = a) (hm : a.length = m) {x : Tl a} {y : Tl (ks.drop m)} (x1 : ROs (Zall w) w a x ((cs.drop o).take m)) (x2 : BgL a x) (y1 : ROs (Zall w) w (ks.drop m) y (cs.drop (o + m))) (y2 : BgL (ks.drop m) y) : ∃ z : Tl ks, ROs (Zall w) w ks z (cs.drop o) ∧ BgL ks z := by
 have h := ROs_app w _ _ _ _ x y x1 x2 y1 y2
 have e1 : a ++ ks.drop m = ks := by rw [← hk]; exact List.take_append_drop m ks
 have e2 : (cs.drop o).take m ++ cs.drop (o + m) = cs.drop o := by rw [← List.drop_drop, List.take_append_drop]
 rw [e1, e2] at h
 exact h
theorem trod_RO (hT : TTok P E) : ∀ (n t : Nat) (ti : TI), rdB E n t = true → E.ti t = some ti → ∀ (fuel : Nat) (cs : List Value) (d : DataW H) (ps : List MemPlace), DataW.trod enc P w 0 spare held fuel t cs = some (d, ps) → (∀ m ∈ d.weights P t, m ≤ big) → ∃ x : Tl ti.ks, ROs (Zall w) w ti.ks x cs ∧ BgL ti.ks x := by
 intro n
 induction n with
 | zero => intro t ti h; simp [rdB] at h
 | succ n ih =>
   intro t ti hrd hti fuel cs d ps htr hw
   have hTi := hT t ti hti
   obtain ⟨dd, hu, hdd⟩ := hTi.desc
   unfold rdB at hrd
   rw [hti] at hrd
   simp only at hrd
   obtain ⟨inf, hinf, hsz, _⟩ := hTi.info
   have hcell : P.cellsOf t = ti.ks.length := by simp [Program.cellsOf, hinf, hsz]
   cases dd with
   | bool =>
     obtain ⟨hag, hks⟩ := hdd
     obtain ⟨b, rfl, _⟩ := DataW.trod_bool hu htr
     rw [hks]
     exact ⟨(b, ()), ⟨rfl, trivial⟩, ⟨trivial, trivial⟩⟩
   | int k =>
     obtain ⟨hag, hks⟩ := hdd
     obtain ⟨v, rfl, _, hwf⟩ := DataW.trod_int hu htr
     rw [hks]
     refine ⟨(v, ()), ⟨⟨rfl, ?_⟩, trivial⟩, ⟨trivial, trivial⟩⟩
     simpa [Lit.wf, inR] using hwf
   | string =>
     obtain ⟨hag, hks⟩ := hdd
     obtain ⟨v, rfl, hx, _⟩ := DataW.trod_string hu htr
     simp only [Prod.mk.injEq] at hx
     obtain ⟨rfl, _⟩ := hx
     rw [hks]
     have hl := hw v.data.toList.length (by simp [DataW.weights])
     exact ⟨(v.data.toList, ()), ⟨⟨by simp [mkS], hl⟩, trivial⟩, ⟨hl, trivial⟩⟩
   | slice e =>
     obtain ⟨hag, ks, hks, hel⟩ := hdd
     obtain ⟨ag, kk, el, by', fl⟩ := ti
     simp only at hks hel hag
     subst hks
     subst hel
     subst hag
     simp only at hrd
     cases hte : E.ti el with
     | none => rw [hte] at hrd; simp at hrd
     | some te =>
     rw [hte] at hrd
     simp only [Bool.and_eq_true] at hrd
     obtain ⟨r1, r2, r3, r4⟩ := hrd
     have hkk := K.sames_eq _ _ r1
     subst hkk
     have hby : 0 < te.bytes := Nat.lt_of_succ_le (Nat.le_of_ble_eq_true r2)
     have hkl : 0 < te.ks.length := Nat.lt_of_succ_le (Nat.le_of_ble_eq_true r3)
     obtain ⟨inf2, hinf2, hsz2, hby2, _⟩ := (hT el te hte).info
     have hce : P.cellsOf el = te.ks.length := by simp [Program.cellsOf, hinf2, hsz2]
     have hbe : P.bytesOf el = te.bytes := by simp [Program.bytesOf, hinf2, hby2]
     rcases DataW.trod_slice hu htr with ⟨rfl, _⟩ | ⟨a, len, cap, elems, rest, m, _, rfl, hx, _, hlc, hcm, hlen, hel, _⟩
     · exact ⟨(([] : List (Tl te.ks)), ()), ⟨⟨none, 0, rfl, Nat.le_refl _, Nat.zero_le _, fun _ => rfl, fun h => absurd rfl h⟩, trivial⟩, ⟨⟨Nat.zero_le _, fun y hy => by simp [els] at hy⟩, trivial⟩⟩
     · simp only [Prod.mk.injEq] at hx
       obtain ⟨rfl, _⟩ := hx
       have hwl : (elems.length + rest.length) * te.bytes ≤ big := by
        have := hw ((elems.length + rest.length) * P.bytesOf el) (by simp [DataW.weights, hu])
        rwa [hbe] at this
       have hlb : len ≤ big := by
        have := Nat.le_mul_of_pos_right (elems.length + rest.length) hby
        omega
       rw [hce] at hel
       have hone : ∀ i, i < len → ∃ x : Tl te.ks, (a.spot = none ∨ 0 < i) ∧ (∃ cells, w.cells? 0 (a.add (i * te.ks.length)) te.ks.length = some cells ∧ ROs (Zall w) w te.ks x cells) ∧ BgL te.ks x := fun i hi => by
        have h1 := hel i hi
        have hei : elems[i]? = some (elems[i]'(by omega)) := List.getElem?_eq_getElem (by omega)
        rw [hei] at h1
        obtain ⟨cells, hc1, hc2⟩ := Option.bind_eq_some_iff.1 h1
        obtain ⟨x, hx1, hx2⟩ := ih el te r4 hte m cells _ _ hc2 fun q hq => hw q (by
         simp only [DataW.weights, hu, List.mem_cons, List.mem_append]
         right; left
         exact weightsAll_mem (elems.map (·.1)) (List.mem_map.2 ⟨_, List.getElem_mem (by omega : i < elems.length), rfl⟩) q hq)
        refine ⟨x, ?_, ⟨cells, hc1, hx1⟩, hx2⟩
        rcases Nat.eq_zero_or_pos i with h0 | h0
        · left
          subst h0
          obtain ⟨g1, g2⟩ := cells_get hc1
          obtain ⟨v, hv⟩ : ∃ v, cells[0]? = some v := ⟨cells[0]'(by omega), List.getElem?_eq_getElem (by omega)⟩
          have := g2 0 v hv
          simp [Addr.add] at this
          exact (cell_spot this).1
        · exact .inr h0
       obtain ⟨xs, hxl, hxs⟩ := choose_list _ len hone
       refine ⟨((xs : List (Tl te.ks)), ()), ⟨⟨some a, cap, by show Value.slice (some a) len cap = .slice (some a) xs.length cap; rw [hxl], by show xs.length ≤ cap; omega, by show xs.length ≤ big; omega, fun h => by simp at h, fun hne => ?_⟩, trivial⟩, ⟨⟨by show xs.length ≤ big; omega, fun y hy => ?_⟩, trivial⟩⟩
       · have hpos : 0 < xs.length := List.length_pos_iff.2 hne
         have hx0 := hxs 0 _ (List.getElem?_eq_getElem hpos)
         have hsp : a.spot = none := by
          rcases hx0.1 with h | h
          · exact h
          · omega
         obtain ⟨ab, ao, asp⟩ := a
         simp only at hsp
         subst hsp
         have hadd : ∀ o k, (⟨ab, o, none⟩ : Addr).add k = ⟨ab, o + k, none⟩ := fun o k => by
          unfold Addr.add
          split
          · rename_i h; subst h; rfl
          · rfl
         have hblk : ab < w.heap.size := by
          obtain ⟨_, ⟨cells, hc1, hc2⟩, _⟩ := hx0
          obtain ⟨g1, g2⟩ := cells_get hc1
          obtain ⟨v, hv⟩ : ∃ v, cells[0]? = some v := ⟨cells[0]'(by omega), List.getElem?_eq_getElem (by omega)⟩
          have := g2 0 v hv
          rw [hadd, hadd] at this
          exact (cell_spot this).2
         refine ⟨ab, ao, rfl, hblk, hblk, fun i x hi => ?_⟩
         obtain ⟨_, ⟨cells, hc1, hc2⟩, _⟩ := hxs i x hi
         obtain ⟨g1, g2⟩ := cells_get hc1
         refine ROl_cells w te.ks x cells ab (ao + i * te.ks.length) hc2 fun j v hj => ?_
         have := g2 j v hj
         rw [hadd, hadd] at this
         exact this
       · obtain ⟨i, hi⟩ := List.getElem?_of_mem hy
         exact (hxs i y hi).2.2
   | struct fs =>
     obtain ⟨hag, hfl, _⟩ := hdd
     rw [hag] at hrd
     simp only at hrd
     obtain ⟨xs, m, _, hx, hlen, hxl, hget⟩ := DataW.trod_struct hu htr
     simp only [Prod.mk.injEq] at hx
     obtain ⟨rfl, _⟩ := hx
     rw [hcell] at hlen
     have key : ∀ (l : List (Nat × Nat)) (ks : List K) (off i : Nat), (∀ j, fld l j = fld ti.flds (i + j)) → off + ks.length = ti.ks.length → flB E (rdB E n) l ks off = true → ∃ x : Tl ks, ROs (Zall w) w ks x (cs.drop off) ∧ BgL ks x := by
      intro l
      induction l with
      | nil =>
        intro ks off i hf ho hb
        cases ks with
        | nil =>
          rw [List.drop_of_length_le (by simp at ho; omega)]
          exact ⟨(), trivial, trivial⟩
        | cons k ks => simp [flB] at hb
      | cons p r ihl =>
        intro ks off i hf ho hb
        obtain ⟨o, u⟩ := p
        have hb' : (Nat.beq o off && (rdB E n u && match E.ti u with
         | some tu => K.sames (ks.take tu.ks.length) tu.ks && (Nat.ble tu.ks.length ks.length && flB E (rdB E n) r (ks.drop tu.ks.length) (off + tu.ks.length))
         | none => false)) = true := by
         cases ks <;> exact hb
        simp only [Bool.and_eq_true] at hb'
        obtain ⟨b1, b2, b3⟩ := hb'
        cases htu : E.ti u with
        | none => rw [htu] at b3; simp at b3
        | some tu =>
        rw [htu] at b3
        simp only [Bool.and_eq_true] at b3
        obtain ⟨b3, b4, b5⟩ := b3
        have ho' := beq_eq b1
        subst ho'
        have hks := K.sames_eq _ _ b3
        have hkl : tu.ks.length ≤ ks.length := Nat.le_of_ble_eq_true b4
        have h0 := hf 0
        rw [Nat.add_zero] at h0
        obtain ⟨fi, f1, f2, f3⟩ := hfl i o u h0.symm
        have hg := hget i fi f1
        rw [f2, f3] at hg
        obtain ⟨inu, hinu, hsu, _⟩ := (hT u tu htu).info
        have hcu : P.cellsOf u = tu.ks.length := by simp [Program.cellsOf, hinu, hsu]
        rw [hcu] at hg
        have hil : i < xs.length := by rw [hxl]; exact (Array.getElem?_eq_some_iff.1 f1).1
        rw [List.getElem?_eq_getElem hil] at hg
        obtain ⟨x, x1, x2⟩ := ih u tu b2 htu m _ _ _ hg fun q hq => hw q (by
         simp only [DataW.weights, hu]
         refine DataW.weights_mem_each (j := i) (t := u) (d := xs[i].1) ?_ ?_ q hq
         · rw [List.getElem?_map, Array.getElem?_toList, f1, Option.map_some, f3]
         · rw [List.getElem?_map, List.getElem?_eq_getElem hil]; rfl)
        obtain ⟨y, y1, y2⟩ := ihl (ks.drop tu.ks.length) (o + tu.ks.length) (i + 1) (fun j => by rw [show i + 1 + j = i + (j + 1) by omega, ← hf (j + 1)]; rfl) (by rw [List.length_drop]; omega) b5
        exact ROs_joined hks rfl x1 x2 y1 y2
     obtain ⟨x, x1, x2⟩ := key ti.flds ti.ks 0 0 (fun j => by rw [Nat.zero_add]) (by omega) hrd
     exact ⟨x, x1, x2⟩
   | _ => exact hdd.elim
end
end Go.Av
namespace Go.Av
open Go.RowKit (Below)
def psB (E : En) : List Nat → List PK → Bool
 | [], [] => true
 | t :: ts, .c g ks :: ps => (match E.ti t with | some ti => boolEq g ti.agg && (K.sames ks ti.ks && rdB E 30 t) | none => false) && psB E ts ps
 | _, _ => false
def BgP : (ps : List PK) → PT ps → Prop
 | [], _ => True
 | .c _ ks :: ps, x => BgL ks x.1 ∧ BgP ps x.2
 | .pt _ :: ps, x => BgP ps x.2
 | .nil :: ps, x => BgP ps x
 | .fn _ _ :: ps, x => BgP ps x.2
 | .io _ _ :: ps, x => BgP ps x.2
 | .mv _ :: ps, x => BgP ps x.2
section
variable {H : Type} {enc : TypeId × Value → H} {P : Program} {w : World} {spare : Nat → Bool} {held : Bool} {E : En}
theorem arg_RO (hT : TTok P E) {t : Nat} {ti : TI} (hr : rdB E 30 t = true) (hti : E.ti t = some ti) {base : Nat} {v : Value} (hv : Value.okWide P w .any base t v) {d : DataW H} {p : List MemPlace} (h : DataW.Trod enc P w 0 spare held t v d p) (hw : ∀ m ∈ d.weights P t, m ≤ big) :
 ∃ x : Tl ti.ks, ROv (Zall w) w ti.agg ti.ks x v ∧ BgL ti.ks x := by
 obtain ⟨fuel, h⟩ := h
 obtain ⟨x, h1, h2⟩ := trod_RO hT 30 t ti hr hti fuel _ d p h hw
 refine ⟨x, ⟨v.cells.toList, ?_, h1⟩, h2⟩
 obtain ⟨dd, hu, hdd⟩ := (hT t ti hti).desc
 unfold Value.okWide at hv
 rw [hu] at hv
 cases dd with
 | struct fs =>
   obtain ⟨cs, rfl, _⟩ := hv
   rw [hdd.1]
   show Value.agg cs = .agg cs.toList.toArray
   simp
 | bool =>
   rw [hdd.1]
   unfold Cell.okWide at hv
   rw [hu] at hv
   cases v <;> first | rfl | exact (by simp [Cell.ok, hu] at hv)
 | int k =>
   rw [hdd.1]
   unfold Cell.okWide at hv
   rw [hu] at hv
   cases v <;> first | rfl | exact (by simp [Cell.ok, hu] at hv)
 | string =>
   rw [hdd.1]
   unfold Cell.okWide at hv
   rw [hu] at hv
   cases v <;> first | rfl | exact (by simp [Cell.ok, hu] at hv)
 | slice e =>
   rw [hdd.1]
   unfold Cell.okWide at hv
   rw [hu] at hv
   cases v <;> first | rfl | exact (by simp [Cell.ok, hu] at hv)
 | _ => exact hdd.elim
theorem trod_len {base : Nat} {spare : Nat → Bool} {held : Bool} : ∀ (ts : List Nat) (vs : List Value) (ds : List (DataW H)) (pl : List MemPlace), DataW.TrodAll enc P w base spare held ts vs ds pl → ds.length = ts.length
 | [], [], [], _, _ => rfl
 | t :: ts, v :: vs, d :: ds, _, h => by
   obtain ⟨p, q, _, h2, _⟩ := h
   simp [trod_len ts vs ds q h2]
 | [], _ :: _, _, _, h => h.elim
 | [], [], _ :: _, _, h => h.elim
 | _ :: _, [], _, _, h => h.elim
 | _ :: _, _ :: _, [], _, h => h.elim
theorem args_all (hT : TTok P E) {base : Nat} : ∀ (ts : List Nat) (ps : List PK), psB E ts ps = true → ∀ (vs : List Value) (ds : List (DataW H)) (pl : List MemPlace) (n : Nat), DataW.TrodAll enc P w 0 spare held ts vs ds pl → (∀ (j : Nat) t v, ts[j]? = some t → vs[j]? = some v → Value.okWide P w .any base t v) →
 (∀ m ∈ DataW.weightsEach P ts ds, m ≤ big) → ∃ x : PT ps, ArgsR (Zall w) w (fun _ _ => False) ps x vs n ∧ BgP ps x
 | [], [], _, [], [], pl, n, h, hv, hw => ⟨(), trivial, trivial⟩
 | [], [], _, _ :: _, _, pl, n, h, hv, hw => h.elim
 | [], [], _, [], _ :: _, pl, n, h, hv, hw => h.elim
 | t :: ts, .c g ks :: ps, hp, [], ds, pl, n, h, hv, hw => h.elim
 | t :: ts, .c g ks :: ps, hp, _ :: _, [], pl, n, h, hv, hw => h.elim
 | t :: ts, .c g ks :: ps, hp, v :: vs, d :: ds, pl, n, h, hv, hw => by
   obtain ⟨p, q, h1, h2, _⟩ := h
   unfold psB at hp
   simp only [Bool.and_eq_true] at hp
   obtain ⟨hp1, hp2⟩ := hp
   cases hti : E.ti t with
   | none => rw [hti] at hp1; simp at hp1
   | some ti =>
     rw [hti] at hp1
     simp only [Bool.and_eq_true] at hp1
     obtain ⟨b1, b2, b3⟩ := hp1
     have e1 := boolEq_eq b1
     have e2 := K.sames_eq _ _ b2
     subst e1
     subst e2
     obtain ⟨x, x1, x2⟩ := arg_RO hT b3 hti (hv 0 t v rfl rfl) h1 (fun m hm => hw m (by simp only [DataW.weightsEach, List.mem_append]; exact .inl hm))
     obtain ⟨y, y1, y2⟩ := args_all hT ts ps hp2 vs ds q n h2 (fun j t' v' ht hv' => hv (j + 1) t' v' (by simpa using ht) (by simpa using hv')) (fun m hm => hw m (by simp only [DataW.weightsEach, List.mem_append]; exact .inr hm))
     exact ⟨(x, y), ⟨x1, y1⟩, ⟨x2, y2⟩⟩
 | [], .c _ _ :: _, hp, _, _, _, _, _, _, _ => by simp [psB] at hp
 | [], .pt _ :: _, hp, _, _, _, _, _, _, _ => by simp [psB] at hp
 | [], .nil :: _, hp, _, _, _, _, _, _, _ => by simp [psB] at hp
 | [], .fn _ _ :: _, hp, _, _, _, _, _, _, _ => by simp [psB] at hp
 | [], .io _ _ :: _, hp, _, _, _, _, _, _, _ => by simp [psB] at hp
 | [], .mv _ :: _, hp, _, _, _, _, _, _, _ => by simp [psB] at hp
 | _ :: _, [], hp, _, _, _, _, _, _, _ => by simp [psB] at hp
 | _ :: _, .pt _ :: _, hp, _, _, _, _, _, _, _ => by simp [psB] at hp
 | _ :: _, .nil :: _, hp, _, _, _, _, _, _, _ => by simp [psB] at hp
 | _ :: _, .fn _ _ :: _, hp, _, _, _, _, _, _, _ => by simp [psB] at hp
 | _ :: _, .io _ _ :: _, hp, _, _, _, _, _, _, _ => by simp [psB] at hp
 | _ :: _, .mv _ :: _, hp, _, _, _, _, _, _, _ => by simp [psB] at hp
theorem resR_bool {fresh : Bool} {Z : Nat → Prop} {w : World} {H : Nat → Nat → Prop} {b : Bool} : ∀ {vs : List Value}, ResR fresh Z w H [(false, [.bool])] ((b, ()), ()) vs 0 → vs = [.bool b]
 | [], h => h.elim
 | [v], h => by
   obtain ⟨⟨cs, hc, hcells⟩, _⟩ := h
   have hc : cs = [v] := hc
   subst hc
   have hv : v = .bool b := hcells.1
   rw [hv]
 | _ :: _ :: _, h => h.2.elim
theorem law_calls {f : Nat} {fn : Func} {c : Code} {s : Su} (hsu : SuOK P f s) (hf : P.funcs[f]? = some fn) (hname : (fn.name == "runtime.NumGoroutine") = false) (hb : fn.body = some c)
 (hgl : Gl P w (Zall w)) {args : Array Value} {x : PT s.ps} (hargs : ArgsR (Zall w) w (fun _ _ => False) s.ps x args.toList 0)
 (hlaw : ∃ y, s.ans x = some y ∧ ∀ (Z : Nat → Prop) (w' : World) (H : Nat → Nat → Prop) (vs : List Value), ResR s.fresh Z w' H s.rs y.2 vs 0 → vs = [.bool true]) :
 Calls P f args w fun e w' => e = .returned (.bool true) ∧ Below w.heap.size w w' := by
 obtain ⟨y, hy, hres⟩ := hlaw
 have h := hsu w (Zall w) (fun _ _ => False) args x y hgl hargs (fun b hb => hb) (fun i b hb => hb.elim) (fun i j b hb => hb.elim) hy
 rw [MuLone.run_callFunc_enter hf hname hb] at h
 have h : Calls P f args w _ := h
 refine h.mono fun e w' he => ?_
 cases e with
 | returned v =>
   obtain ⟨Z', H', vs, rfl, ha, _, hr⟩ := he
   have hvs := hres Z' w' _ vs hr
   subst hvs
   exact ⟨rfl, ha.os, ha.tape, ha.output, ha.size, fun k hk => ha.block k hk fun i hi => hi⟩
 | _ => exact he.elim
theorem Below.trodAll (hl : laidOutB P = true) {W W' : World} (hb : Below W.heap.size W W') : ∀ (ts : List TypeId) (vs : List Value) (ds : List (DataW H)) (ps : List MemPlace), (∀ t ∈ ts, P.readableRec t = true ∧ t < P.types.size) → DataW.TrodAll enc P W 0 (fun _ => true) true ts vs ds ps → (∀ x ∈ ps, x.block < W.heap.size) → DataW.TrodAll enc P W' 0 (fun b => decide (b < W.heap.size)) true ts vs ds ps
 | [], [], [], ps, _, h, _ => h
 | t :: ts, v :: vs, d :: ds, ps, ht, h, hlt => by
   obtain ⟨p, q, h1, h2, rfl⟩ := h
   exact ⟨p, q, Below.trod hl (ht t (List.mem_cons_self ..)).1 (ht t (List.mem_cons_self ..)).2 h1 hb (fun x hx => hlt x (List.mem_append_left _ hx)), Below.trodAll hl hb ts vs ds q (fun t ht' => ht t (List.mem_cons_of_mem _ ht')) h2 (fun x hx => hlt x (List.mem_append_right _ hx)), rfl⟩
 | [], _ :: _, _, _, _, h, _ => h.elim
 | [], [], _ :: _, _, _, h, _ => h.elim
 | _ :: _, [], _, _, _, h, _ => h.elim
 | _ :: _, _ :: _, [], _, _, h, _ => h.elim
theorem law_post {fn : Func} {s : ChangeSpec} (hl : laidOutB P = true) (hvars : s.vars = []) {rt : TypeId} (hrt : fn.resultTypes = #[rt]) (hru : P.underlying rt = some .bool) (hpar : ∀ t ∈ fn.params.toList, P.readableRec t = true ∧ t < P.types.size)
 {W W' : World} {args : Array Value} {ds gs : List (DataW H)} {before : List MemPlace} (hW : DataW.Whole enc P fn.params.toList s.vars false W args.toList ds gs before) (hb : Below W.heap.size W W')
 (hs : s.fn H (ds ++ gs) = { results := [.lit (.bool true)], args := ds }) : s.post enc P fn false true false false W args (.bool true) W' := by
 have hlt := hW.lt
 have hW0 := hW
 obtain ⟨p, q, hA, hV, rfl, _, _⟩ := hW
 rw [hvars] at hV
 obtain ⟨rfl, rfl⟩ : gs = [] ∧ q = [] := by
  cases gs with
  | nil => exact ⟨rfl, hV⟩
  | cons _ _ => exact hV.elim
 refine ⟨ds, [], _, [], p, [], hW0, ?_, ?_, ?_, hb.frame _, fun h => by simp at h⟩
 · rw [hs, hrt]
   exact ⟨[], [], Go.RowKit.shut_bool hru true, rfl, rfl⟩
 · rw [hs]
   exact Below.trodAll hl hb _ _ _ _ hpar hA fun x hx => by have := hlt x (List.mem_append_left _ hx); simpa using this
 · rw [hs, hvars]
   rfl
end
end Go.Av
namespace Go.Av
structure Swo {α : Type} (lt : α → α → Bool) : Prop where
 irr : ∀ a, lt a a = false
 trans : ∀ a b c, lt a b = true → lt b c = true → lt a c = true
 neg : ∀ a b c, lt a c = true → lt a b = true ∨ lt b c = true
def eqv {α : Type} (lt : α → α → Bool) (a b : α) : Bool := !lt a b && !lt b a
def Stb {α : Type} (lt : α → α → Bool) (xs ys : List α) : Prop := xs.length = ys.length ∧ ∀ z, xs.filter (eqv lt z) = ys.filter (eqv lt z)
section
variable {α : Type} {lt : α → α → Bool}
theorem eqv_self (h : Swo lt) (a : α) : eqv lt a a = true := by simp [eqv, h.irr]
theorem eqv_iff {a b : α} : eqv lt a b = true ↔ lt a b = false ∧ lt b a = false := by simp [eqv]
theorem Swo.le_trans (h : Swo lt) {a b c : α} (h1 : lt b a = false) (h2 : lt c b = false) : lt c a = false := by
 cases hc : lt c a with
 | false => rfl
 | true => rcases h.neg c b a hc with h3 | h3 <;> simp_all
theorem eqv_trans (h : Swo lt) {a b c : α} (h1 : eqv lt a b = true) (h2 : eqv lt b c = true) : eqv lt a c = true := by
 rw [eqv_iff] at *
 exact ⟨h.le_trans h2.1 h1.1, h.le_trans h1.2 h2.2⟩
theorem eqv_symm {a b : α} (h : eqv lt a b = true) : eqv lt b a = true := by
 rw [eqv_iff] at *; exact ⟨h.2, h.1⟩
theorem Stb.refl (xs : List α) : Stb lt xs xs := ⟨rfl, fun _ => rfl⟩
theorem Stb.symm {xs ys : List α} (h : Stb lt xs ys) : Stb lt ys xs := ⟨h.1.symm, fun z => (h.2 z).symm⟩
theorem Stb.trans {xs ys zs : List α} (h1 : Stb lt xs ys) (h2 : Stb lt ys zs) : Stb lt xs zs := ⟨h1.1.trans h2.1, fun z => (h1.2 z).trans (h2.2 z)⟩
theorem Stb.append {a b c d : List α} (h1 : Stb lt a b) (h2 : Stb lt c d) : Stb lt (a ++ c) (b ++ d) := ⟨by simp [h1.1, h2.1], fun z => by simp [h1.2 z, h2.2 z]⟩
theorem Stb.mem (h : Swo lt) {xs ys : List α} (hs : Stb lt xs ys) {x : α} : x ∈ xs ↔ x ∈ ys := by
 have key : ∀ {xs ys : List α}, Stb lt xs ys → x ∈ xs → x ∈ ys := fun {xs ys} hs hx => by
  have : x ∈ xs.filter (eqv lt x) := List.mem_filter.2 ⟨hx, eqv_self h x⟩
  rw [hs.2 x] at this
  exact (List.mem_filter.1 this).1
 exact ⟨key hs, key hs.symm⟩
theorem Stb.swap (h : Swo lt) {a b : List α} (hab : ∀ x ∈ a, ∀ y ∈ b, lt y x = true) : Stb lt (a ++ b) (b ++ a) := by
 refine ⟨by simp [Nat.add_comm], fun z => ?_⟩
 rw [List.filter_append, List.filter_append]
 by_cases ha : a.filter (eqv lt z) = []
 · rw [ha]; simp
 · by_cases hb : b.filter (eqv lt z) = []
   · rw [hb]; simp
   · exfalso
     obtain ⟨x, hx⟩ := List.exists_mem_of_ne_nil _ ha
     obtain ⟨y, hy⟩ := List.exists_mem_of_ne_nil _ hb
     have hx := List.mem_filter.1 hx
     have hy := List.mem_filter.1 hy
     have := eqv_trans h (eqv_symm hx.2) hy.2
     rw [eqv_iff] at this
     rw [hab x hx.1 y hy.1] at this
     simp at this
end
end Go.Av
namespace Go.Av
end Go.Av
namespace Go.Av
open Go.RowKit (Below)
open Go.Shelf Go.Proofs Go.Lib
section
variable {P : Program} {w w' : World} {Z Z' : Nat → Prop} {F G : Nat → Nat → Prop}
theorem ioR_none : ∀ (ps : List PK) (x : PT ps) (y : IOT ps) (vs : List Value) (n m : Nat), ArgsR Z w F ps x vs n → hasIo ps = false → IoR Z' w' G ps y vs m
 | [], _, _, [], _, _, _, _ => trivial
 | [], _, _, _ :: _, _, _, h, _ => h.elim
 | .c _ _ :: ps, x, y, v :: vs, n, m, h, hi => ioR_none ps x.2 y vs n m h.2 hi
 | .pt _ :: ps, x, y, v :: vs, n, m, h, hi => ioR_none ps x.2 y vs n m h.2 hi
 | .nil :: ps, x, y, v :: vs, n, m, h, hi => ioR_none ps x y vs n m h.2 hi
 | .fn _ _ :: ps, x, y, v :: vs, n, m, h, hi => ioR_none ps x.2 y vs n m h.2 hi
 | .mv _ :: ps, x, y, v :: vs, n, m, h, hi => ioR_none ps x.2 y vs (n + 1) (m + 1) h.2 hi
 | .io _ _ :: ps, _, _, _, _, _, _, hi => by simp [hasIo] at hi
 | .c _ _ :: _, _, _, [], _, _, h, _ => h.elim
 | .pt _ :: _, _, _, [], _, _, h, _ => h.elim
 | .nil :: _, _, _, [], _, _, h, _ => h.elim
 | .fn _ _ :: _, _, _, [], _, _, h, _ => h.elim
 | .mv _ :: _, _, _, [], _, _, h, _ => h.elim
def LibPost (w : World) (Z : Nat → Prop) (s : Su) (y : CT s.rs) (e : Ending) (w' : World) : Prop :=
 ∃ (vs : List Value) (H : Nat → Nat → Prop), e = .returned (wrapV vs) ∧ Below w.heap.size w w' ∧ (∀ n b, H n b → w.heap.size ≤ b ∧ b < w'.heap.size) ∧ (∀ n m b, H n b → H m b → n = m) ∧ ResR s.fresh Z w' H s.rs y vs 0
theorem lib_ok {f : Nat} {fn : Func} {c : Code} {s : Su} (hf : P.funcs[f]? = some fn) (hname : (fn.name == "runtime.NumGoroutine") = false) (hb : fn.body = some c) (hio : hasIo s.ps = false)
 (h : ∀ (w : World) (Z : Nat → Prop) (F : Nat → Nat → Prop) (args : Array Value) (x : PT s.ps) (y : IOT s.ps × CT s.rs), Gl P w Z → (∀ b, Z b → b < w.heap.size) → ArgsR Z w F s.ps x args.toList 0 → s.ans x = some y → Calls P f args w (LibPost w Z s y.2)) : SuOK P f s := by
 intro w Z F args x y hgl hargs hZ hF hd hy
 rw [MuLone.run_callFunc_enter hf hname hb]
 show Calls P f args w _
 refine (h w Z F args x y hgl hZ hargs hy).mono fun e w' ⟨vs, H, he, hb, h1, h2, hr⟩ => ?_
 subst he
 refine ⟨Z, fun n b => ∃ j, n = 2 * j + 1 ∧ H j b, vs, rfl, ?_, ioR_none _ x _ _ 0 0 hargs hio, ResR.mono (fun n b hb => ⟨n, rfl, hb⟩) _ _ _ _ hr⟩
 exact { os := hb.os, tape := hb.tape, output := hb.output, size := hb.size
         block := fun b hlt _ => hb.block b hlt
         z := fun b hb => hb
         zone := fun b hz => ⟨Nat.lt_of_lt_of_le (hZ b hz) hb.size, .inl hz⟩
         fp := fun n b ⟨j, _, hh⟩ => ⟨(h1 j b hh).2, fun hz => by have := hZ b hz; have := (h1 j b hh).1; omega, .inr (h1 j b hh).1⟩
         disj := fun n m b ⟨j, e1, h3⟩ ⟨j', e2, h4⟩ => by have := h2 j j' b h3 h4; omega }
theorem gl_tab {nm : String} {k : IntKind} {zs : List Int} (h : Gl P w Z) (hm : (nm, tabP k zs) ∈ gl0) {g : Nat} (hg : P.globalNamed nm = some g) : Lib.TabIs P w nm k zs := by
 obtain ⟨⟨e, fr, h1⟩, _, _⟩ := h _ hm g hg
 simp only [Lib.TabIs, World.var?, hg, Option.bind_some, h1]
theorem resStr {fr : Bool} {s : List UInt8} (h : s.length ≤ big) : ResR fr Z w (fun _ _ => False) [(false, [.str])] ((s, ()), ()) [.string ⟨s.toArray⟩] 0 :=
 ⟨⟨[.string ⟨s.toArray⟩], rfl, ⟨rfl, h⟩, trivial⟩, trivial⟩
theorem arg_int {k : IntKind} {x : Tl [K.int k]} {v : Value} (h : ROv Z w false [.int k] x v) : v = .int k x.1 ∧ inR k x.1 := by
 obtain ⟨cs, e, h⟩ := h
 have e : cs = [v] := e
 subst e
 exact h.1
theorem arg_str {x : Tl [K.str]} {v : Value} (h : ROv Z w false [.str] x v) : v = .string (mkS x.1) ∧ x.1.length ≤ big := by
 obtain ⟨cs, e, h⟩ := h
 have e : cs = [v] := e
 subst e
 exact h.1
def itoaG (n : Int) : Option (Unit × ((List UInt8) × Unit) × Unit) := some ((), ((Lib.itoa n, ()), ()))
theorem itoa_ok {ρ : Ren} (L : LaysM.n171 P ρ) {f : Nat} (hf : f = ρ.f 171) {fn : Func} {c : Code} (h1 : P.funcs[f]? = some fn) (hname : (fn.name == "runtime.NumGoroutine") = false) (hb : fn.body = some c) : SuOK P f ⟨[.c false [.int .i64]], [(false, [.str])], true, .inl fun x => itoaG x.1.1⟩ := by
 subst hf
 refine lib_ok h1 hname hb rfl fun w Z F args x y hgl hZ hargs hy => ?_
 have hy : itoaG x.1.1 = some y := hy
 obtain rfl := Option.some.inj hy
 match hl : args.toList, hargs with
 | [v], ⟨hv, _⟩ =>
   obtain ⟨rfl, hr⟩ := arg_int hv
   obtain rfl : args = #[.int .i64 x.1.1] := by rw [← Array.toArray_toList (xs := args), hl]
   obtain ⟨⟨n, _⟩, _⟩ := x
   change Int at n
   have hr : (-9223372036854775808 : Int) ≤ n ∧ n ≤ 9223372036854775807 := hr
   refine (Any.strconv_Itoa L n hr.1 hr.2 w (gl_tab hgl (by simp [gl0]) L.m17)).mono fun e w' ⟨he, k, os, hw⟩ => ?_
   subst he hw
   refine ⟨[_], fun _ _ => False, rfl, below_grow _ w (Nat.le_refl _) k os, fun _ _ h => h.elim, fun _ _ _ h => h.elim, resStr ?_⟩
   exact Nat.le_trans (itoa_length_le _ hr.1 hr.2) (by decide)
 | [], h => exact h.elim
 | _ :: _ :: _, h => exact h.2.elim
def repeatG (s : List UInt8) (n : Int) : Option (Unit × ((List UInt8) × Unit) × Unit) := cond (leI 0 n && Nat.ble (s.length * n.toNat) big) (some ((), ((Lib.repeatL s n.toNat, ()), ()))) none
theorem repeat_ok {ρ : Ren} (L : Lays.n105 P ρ) (X : Builder.Extra P ρ) {f : Nat} (hf : f = ρ.f 105) {fn : Func} {c : Code} (h1 : P.funcs[f]? = some fn) (hname : (fn.name == "runtime.NumGoroutine") = false) (hb : fn.body = some c) : SuOK P f ⟨[.c false [.str], .c false [.int .i64]], [(false, [.str])], true, .inl fun x => repeatG x.1.1 x.2.1.1⟩ := by
 subst hf
 refine lib_ok h1 hname hb rfl fun w Z F args x y hgl hZ hargs hy => ?_
 have hy : repeatG x.1.1 x.2.1.1 = some y := hy
 match hl : args.toList, hargs with
 | [v, u], ⟨hv, hu, _⟩ =>
   obtain ⟨rfl, hr⟩ := arg_str hv
   obtain ⟨rfl, hr2⟩ := arg_int hu
   obtain rfl : args = #[.string (mkS x.1.1), .int .i64 x.2.1.1] := by rw [← Array.toArray_toList (xs := args), hl]
   obtain ⟨⟨s, _⟩, ⟨n, _⟩, _⟩ := x
   change List UInt8 at s
   change Int at n
   simp only [repeatG] at hy
   cases hc : leI 0 n && Nat.ble (s.length * n.toNat) big with
   | false => simp [hc] at hy
   | true =>
     rw [hc] at hy
     obtain rfl := Option.some.inj hy
     simp only [Bool.and_eq_true] at hc
     have h0 : 0 ≤ n := by simpa [leI] using hc.1
     have hb : s.length * n.toNat ≤ 140737488355328 := Nat.le_of_ble_eq_true hc.2
     obtain ⟨k, rfl⟩ : ∃ k : Nat, n = k := ⟨n.toNat, by omega⟩
     have hk : (k : Int) ≤ 9223372036854775807 := hr2.2
     refine (Any.strings_Repeat L X (mkS s) k w (by omega) (by simpa [mkS, ByteArray.size] using hb)).mono fun e w' ⟨he, hbe⟩ => ?_
     subst he
     refine ⟨[_], fun _ _ => False, rfl, hbe, fun _ _ h => h.elim, fun _ _ _ h => h.elim, resStr ?_⟩
     rw [repeatL_length, Nat.mul_comm]
     exact hb
 | [], h => exact h.elim
 | [_], h => exact h.2.elim
 | _ :: _ :: _ :: _, h => exact h.2.2.elim
end
end Go.Av
namespace Go.Av
open Go.RowKit (Below)
theorem tabP_of {P : Program} {W : World} {nm : String} {k : IntKind} {zs : List Int} {g : Nat} (hg : P.globalNamed nm = some g) (h : Lib.TabIs P W nm k zs) : tabP k zs W.heap[g]? ∧ Zall W g ∧ g < W.heap.size := by
 simp only [Lib.TabIs, World.var?, hg, Option.bind_some] at h
 cases ho : W.heap[g]? with
 | none => rw [ho] at h; simp at h
 | some o =>
   rw [ho] at h
   have hlt : g < W.heap.size := by
    rcases Nat.lt_or_ge g W.heap.size with h' | h'
    · exact h'
    · rw [Array.getElem?_eq_none h'] at ho; simp at ho
   cases o with
   | cells cs e fr => simp only [Option.some.injEq] at h; subst h; exact ⟨⟨e, fr, rfl⟩, hlt, hlt⟩
   | _ => simp at h
theorem i64P_of {P : Program} {w : World} {g : Nat} {t : TypeId} {zero : Array Value} (h : w.ShapedOpen P) (hg : g < P.globals.size)
 (h0 : ((begin P (fun _ _ => 0) default).world.heap[g]?).bind Obj.row? = some (zero, t)) (hz : zero.size = 1)
 (hb : P.buildable t = true) (hc : P.cellTypes P.depth t = some [t]) (hu : P.underlying t = some (.int .i64)) : i64P w.heap[g]? ∧ Zall w g ∧ g < w.heap.size := by
 obtain ⟨m, hm⟩ := Go.Proofs.cell_of_shapedOpen_int h hg h0 hz hb hc hu
 have hlt := cell?_lt hm
 refine ⟨?_, hlt, hlt⟩
 simp only [World.cell?, Option.isSome_none, Bool.false_eq_true, if_false] at hm
 cases ho : w.heap[g]? with
 | none => rw [ho] at hm; simp at hm
 | some o =>
   rw [ho] at hm
   cases o with
   | cells cs e fr => exact ⟨m, cs, e, fr, rfl, hm⟩
   | _ => simp at hm
def glAll (P : Program) (W : World) : List (String × (Option Obj → Prop)) → Prop
 | [] => True
 | (nm, p) :: r => (P.globalNamed nm = none ∨ ∃ g, P.globalNamed nm = some g ∧ p W.heap[g]? ∧ Zall W g ∧ g < W.heap.size) ∧ glAll P W r
theorem gl_of {P : Program} {W : World} : ∀ (l : List (String × (Option Obj → Prop))), glAll P W l → ∀ t ∈ l, ∀ g, P.globalNamed t.1 = some g → t.2 W.heap[g]? ∧ Zall W g ∧ g < W.heap.size
 | [], _, t, h, _, _ => by simp at h
 | (nm, p) :: r, ⟨h1, h2⟩, t, h, g, hg => by
   rcases List.mem_cons.1 h with e | h
   · subst e
     rcases h1 with h1 | ⟨g', h3, h4⟩
     · rw [h1] at hg; simp at hg
     · obtain rfl := Option.some.inj (h3.symm.trans hg); exact h4
   · exact gl_of r h2 t h g hg
theorem handed_laid {H : Type} {enc : TypeId × Value → H} {a : Assume} {C : Checked} {os : Os} {f : FuncId} {fn : Func} {s : ChangeSpec} {conds : List PathCond} {apart fresh handsOn again : Bool} {X : World → Array Value → Prop}
 (hX : ∀ (w w' : World) (args : Array Value), w.heap = w'.heap → X w args → X w' args)
 (own : ownKnob C.prog.godebug = none) (started : os.Started) (noInit : C.prog.inits.idxOf? f = none) (hfn : C.prog.funcs[f]? = some fn)
 (witness : ∃ (w : World) (tape : Tape) (i : Input), w.os = os ∧ (w.forCall tape i).Shaped C.prog ∧ i.vars = [] ∧ Input.okWide C.prog (w.forCall tape i) .any w.heap.size f i ∧
   ((s.pre enc C.prog fn conds apart (w.forCall tape i).memory i.args ∧ X (w.forCall tape i).memory i.args) ∧ sizedMet enc C.prog fn (OpenSpec.ofChange s) apart (w.forCall tape i).memory i.args) ∧ a.holds C.prog (lone (Frame.enter C.prog f i.args .normal) [] (w.forCall tape i)))
 (contract : ∀ (W : World) (base : Nat) (args : Array Value) (ds gs : List (DataW H)) (before : List MemPlace),
   (∀ (j : Nat) t v, fn.params[j]? = some t → args[j]? = some v → Value.okWide C.prog W .any base t v) →
   DataW.Whole enc C.prog fn.params.toList s.vars apart W args.toList ds gs before →
   (DataW.weightsEach C.prog (fn.params.toList ++ s.plain.varTypes C.prog) (ds ++ gs)).all (· ≤ reachBytes) = true → X W args →
   W.ShapedOpen C.prog →
   Calls C.prog f args W fun e W' => ∃ v, e = .returned v ∧ s.post enc C.prog fn apart fresh handsOn again W args v W') :
 ReturnsInHanded a C os f .any (fun w args => (s.pre enc C.prog fn conds apart w args ∧ X w args) ∧ sizedMet enc C.prog fn (OpenSpec.ofChange s) apart w args) (s.post enc C.prog fn apart fresh handsOn again) := by
 refine returnsInHanded_of_calls own started noInit witness ?_
 intro w tape i _ hsh _ hok hpre _
 obtain ⟨_, _, _, fn', hfn', _, _, _, _, hval⟩ := hok
 obtain rfl : fn' = fn := Option.some.inj (hfn'.symm.trans hfn)
 obtain ⟨⟨⟨ds, gs, before, hw, _⟩, hx⟩, hz⟩ := hpre
 refine (contract (w.forCall tape i) w.heap.size i.args ds gs before hval (DataW.Whole.of_heap (w' := w.forCall tape i) (by rfl) hw) (hz.weights hw) (hX _ _ _ (by rfl) hx) hsh).mono fun e W' ⟨v, he, hp⟩ => ?_
 subst he
 exact ChangeSpec.post_blind hp
end Go.Av
