/- Part of a proof that the law FnExactAsk answers true for every input: the framework, an evaluator over symbolic data and why it is right. No conditions beyond the statement. -/
import Derived.Test.YtjflhhoafpgfhaaGreatDoorFw2
import Derived.Laws.AppendOwn
import Derived.Lib.Overlaps
import Derived.Lib.AppendZerosOnto
import Derived.IntWalk
import Derived.ChangeArms
import Derived.SizedLaws
import Derived.Carry
import Derived.HandedShaped
import Derived.ProofKit
import Derived.Shelf.Strconv.Itoa3
import Derived.Shelf.Strings.Repeat
import Derived.Lib.ItoaLen
import Derived.Lib.AppendIntMem
import Derived.LaidMore
import Derived.SevenTiedAt
import Derived.MakeChecks
import Derived.Stop.LaidErr
import Derived.Shelf.Vars
namespace Go.Av
open Go.RowKit (Below)
section
variable {w w' : World}
theorem Ownl_move : ∀ (ks : List K) (x : Tl ks) (j : Nat) (G G' : Nat → Nat → Prop) (cs cs' : Array Value) (o o' : Nat), (∀ q, q < ks.length → cs'[o' + q]? = cs[o + q]?) → (∀ j b, G j b → G' j b) → (∀ j b, G j b → b < w.heap.size → w'.heap[b]? = w.heap[b]?) → Ownl w ks x j G cs o → Ownl w' ks x j G' cs' o'
  | [], _, _, _, _, _, _, _, _, _, _, _, _ => trivial
  | k :: ks, x, j, G, G', cs, cs', o, o', hc, hG, hw, ⟨⟨v, h1, h2⟩, h3⟩ =>
    ⟨⟨v, by rw [← h1]; exact hc 0 (by simp), Own.frame k _ v (G j) (G' j) (hG j) (hw j) h2⟩, Ownl_move ks _ (j + 1) G G' cs cs' (o + 1) (o' + 1) (fun q hq => by rw [show o' + 1 + q = o' + (q + 1) by omega, show o + 1 + q = o + (q + 1) by omega]; exact hc (q + 1) (by simp; omega)) hG hw h3⟩
structure NewRows (w : World) (ks : List K) (ys : List (Tl ks)) (news : List Value) (H : Nat → Nat → Nat → Prop) (F : Nat → Prop) : Prop where
  len : news.length = ys.length * ks.length
  one : ∀ v ∈ news, v.oneCell' = true
  sub : ∀ i j b, H i j b → F b
  disj : ∀ i j i' j' b, H i j b → H i' j' b → i = i' ∧ j = j'
  row : ∀ (i : Nat) (y : Tl ks), ys[i]? = some y → Ownl w ks y 0 (H i) news.toArray (i * ks.length)
theorem idx_lt {i m n q : Nat} (hi : i < m) (hq : q < n) : i * n + q < m * n := by
  have := Nat.mul_le_mul_right n (show i + 1 ≤ m from hi)
  rw [Nat.add_mul, Nat.one_mul] at this
  omega
theorem own_cat {e : TypeId} {ks : List K} {xs : T (.sl e ks)} {ys : List (Tl ks)} {G : Nat → Nat → Nat → Prop} {cs : Array Value} {o : Nat} {news : List Value} {H : Nat → Nat → Nat → Prop} {FH : Nat → Prop} {F : Nat → Prop} {b0 : Nat} {cap : Nat}
    (hG1 : ∀ i j b, G i j b → F b ∧ b ≠ b0) (hG2 : ∀ i j i' j' b, G i j b → G i' j' b → i = i' ∧ j = j') (hx : ∀ i x, (els xs)[i]? = some x → Ownl w ks x 0 (G i) cs (o + i * ks.length)) (hn : NewRows w ks ys news H FH) (hFH : ∀ b, FH b → ¬ F b ∧ b ≠ b0)
    {b o' : Nat} {cs' : Array Value} {el : TypeId} {fr : Nat × Nat} {F' : Nat → Prop} (hb : w'.heap[b]? = some (.cells cs' el fr)) (hfr : ∀ q, q < cs'.size + mk1 ks → ¬ (fr.1 ≤ q ∧ q < fr.2)) (hF'b : F' b) (hF' : ∀ q, F q → q ≠ b0 → F' q) (hF'' : ∀ q, FH q → F' q) (hGb : ∀ i j q, G i j q → q ≠ b) (hHb : ∀ q, FH q → q ≠ b)
    (hsame : ∀ q, q < w.heap.size → q ≠ b0 → q ≠ b → w'.heap[q]? = w.heap[q]?)
    (hold : ∀ q, q < (els xs).length * ks.length → cs'[o' + q]? = cs[o + q]?) (hnew : ∀ q, q < news.length → cs'[o' + (els xs).length * ks.length + q]? = news[q]?) (hcap : (els xs).length + ys.length ≤ cap) (hsz : o' + cap * ks.length ≤ cs'.size) (hbig : (els xs).length + ys.length ≤ big) :
    Own w' (.sl e ks) (cat ks (els xs) ys) (.slice (some ⟨b, o', none⟩) ((els xs).length + ys.length) cap) F' := by
  have hlen : (els (e := e) (ks := ks) (cat ks (els xs) ys)).length = (els xs).length + ys.length := List.length_append ..
  refine ⟨_, cap, by rw [hlen], by rw [hlen]; exact hcap, by rw [hlen]; exact hbig, by simp, fun a' ha' => ?_⟩
  simp only [Option.some.injEq] at ha'
  subst ha'
  refine ⟨b, o', cs', el, fr, rfl, hF'b, hb, hfr, hsz, fun i j q => if i < (els xs).length then G i j q else H (i - (els xs).length) j q, fun i j q hq => ?_, fun i j i' j' q h1 h2 => ?_, fun i x hi => ?_⟩
  · dsimp only at hq
    split at hq
    · exact ⟨hF' q (hG1 i j q hq).1 (hG1 i j q hq).2, hGb i j q hq⟩
    · exact ⟨hF'' q (hn.sub _ _ _ hq), hHb q (hn.sub _ _ _ hq)⟩
  · dsimp only at h1 h2
    split at h1
    · split at h2
      · exact hG2 _ _ _ _ _ h1 h2
      · exact absurd (hG1 _ _ _ h1).1 (hFH q (hn.sub _ _ _ h2)).1
    · split at h2
      · exact absurd (hG1 _ _ _ h2).1 (hFH q (hn.sub _ _ _ h1)).1
      · obtain ⟨e1, e2⟩ := hn.disj _ _ _ _ _ h1 h2
        exact ⟨by omega, e2⟩
  · have hi' : (els xs ++ ys)[i]? = some x := hi
    by_cases hl : i < (els xs).length
    · rw [List.getElem?_append_left hl] at hi'
      refine Ownl_move ks x 0 (G i) _ cs cs' _ _ (fun q hq => ?_) (fun j q hq => ?_) (fun j q hq hlt => hsame q hlt (hG1 i j q hq).2 (hGb i j q hq)) (hx i x hi')
      · have := hold (i * ks.length + q) (idx_lt hl hq)
        rw [show o' + i * ks.length + q = o' + (i * ks.length + q) by omega, show o + i * ks.length + q = o + (i * ks.length + q) by omega]
        exact this
      · show (if i < (els xs).length then G i j q else H (i - (els xs).length) j q)
        rw [if_pos hl]; exact hq
    · rw [List.getElem?_append_right (by omega)] at hi'
      have hlt : i - (els xs).length < ys.length := by
        rcases Nat.lt_or_ge (i - (els xs).length) ys.length with h | h
        · exact h
        · simp [List.getElem?_eq_none h] at hi'
      refine Ownl_move ks x 0 (H (i - (els xs).length)) _ news.toArray cs' _ _ (fun q hq => ?_) (fun j q hq => ?_) (fun j q hq hlt' => hsame q hlt' (hFH q (hn.sub _ _ _ hq)).2 (hHb q (hn.sub _ _ _ hq))) (hn.row _ x hi')
      · have hq' : (i - (els xs).length) * ks.length + q < news.length := by rw [hn.len]; exact idx_lt hlt hq
        have := hnew _ hq'
        have hmul : i * ks.length = (els xs).length * ks.length + (i - (els xs).length) * ks.length := by rw [← Nat.add_mul]; congr 1; omega
        rw [show o' + i * ks.length + q = o' + (els xs).length * ks.length + ((i - (els xs).length) * ks.length + q) by omega, this]
        simp
      · show (if i < (els xs).length then G i j q else H (i - (els xs).length) j q)
        rw [if_neg hl]; exact hq
end
section
variable {P : Program} {cx : Cx P} {Z : Nat → Prop} {g : Gh} {st : St} {a : Act} {w : World} {E : En}
theorem Rel.wr (h : Rel cx Z g st a w) {w' : World} {F : Nat → Prop} (hF : Free cx Z g st w F) (h1 : w'.os = w.os) (h2 : w'.tape = w.tape) (h3 : w'.output = w.output) (hs : w.heap.size ≤ w'.heap.size) (hb : ∀ b, b < w.heap.size → ¬ F b → w'.heap[b]? = w.heap[b]?) : Rel cx Z g st a w' := by
  have hz : ∀ b, Z b → b < w.heap.size → w'.heap[b]? = w.heap[b]? := fun b hz hlt => hb b hlt fun hf => hF.z b hf hz
  have hfp : ∀ r j b, g.fp r j b → w'.heap[b]? = w.heap[b]? := fun r j b hf => hb b (h.fp r j b hf).1 fun hf' => hF.fp b hf' r j hf
  have k : Keep Z Z w w' g g st st :=
    { size := hs, z := fun b hz' hlt => ⟨hz', hz b hz' hlt⟩, root := fun r R hR => ⟨R, hR, rfl, fun _ => rfl⟩
      cell := fun r j c hc => ⟨c, hc, Nat.le_refl _, Nat.le_refl _, fun _ => rfl, fun _ e ks xs hh => ⟨xs, hh, rfl⟩, fun _ _ => ⟨rfl, fun b hb' _ => ⟨hb', hfp r j b hb'⟩⟩⟩
      own := fun r j b hb' => (h.fp r j b hb').1
      block := (keep_same h (st' := st) (w' := w) rfl rfl).block }
  refine { os := h1.trans h.os, tape := h2.trans h.tape, output := h3.trans h.output, size := Nat.le_trans h.size hs, block := ?_, zone := fun b hb' => ⟨Nat.lt_of_lt_of_le (h.zone b hb').1 hs, (h.zone b hb').2⟩, z0 := h.z0, fp := ?_, disj := h.disj, box := ?_, cell := ?_, tm := ?_, defers := h.defers, pin := h.pin }
  · intro b hlt hf
    refine (hb b (Nat.lt_of_lt_of_le hlt h.size) fun hf' => ?_).trans (h.block b hlt hf)
    rcases hF.own b hf' with h4 | h4
    · exact hf h4
    · omega
  · intro r j b hb'
    obtain ⟨h1, h2, h3, h4⟩ := h.fp r j b hb'
    exact ⟨Nat.lt_of_lt_of_le h1 hs, h2, h3, h4⟩
  · intro r R hR hbx
    obtain ⟨b1, b2, b3, b4, cs, e, fr, b5, b6⟩ := h.box r R hR hbx
    have hlt : g.be r < w.heap.size := by
      rcases Nat.lt_or_ge (g.be r) w.heap.size with hh | hh
      · exact hh
      · simp [Array.getElem?_eq_none hh] at b5
    exact ⟨b1, b2, b3, b4, cs, e, fr, by rw [hb _ hlt fun hf => hF.box _ hf r R hR hbx rfl]; exact b5, b6⟩
  · intro r j c hc
    exact RelRV.keep k _ _ _ _ (h.cell r j c hc) (fun _ h => h) (fun b hb' _ => hfp r j b hb')
  · exact fun t tv ht => ⟨(h.tm t tv ht).1, RelTV.keep k _ _ (h.tm t tv ht).2⟩
theorem Rel.bindOwn (h : Rel cx Z g st a w) {d : Nat} (hd : Dst cx a d) (hf : st.free d = true) {k : K} {x : T k} {v : Value} {F : Nat → Prop} (hF : ∀ b, F b → b < w.heap.size ∧ (cx.F0 b ∨ cx.w0.heap.size ≤ b) ∧ ¬ Z b ∧ (∀ r j, ¬ g.fp r j b) ∧ (∀ r' R', look st.rt r' = some R' → R'.box = true → g.be r' ≠ b)) (ho : Own w k x v F) :
    ∃ g', Rel cx Z g' (st.bindT d (.v (.ref d 0 0), some ⟨false, [⟨0, 0, .own k x⟩]⟩)) (a.put (some d) v) w := by
  have h6 := Rel.addRoot h (r := d) (be := 0) (R := ⟨false, [⟨0, 0, .own k x⟩]⟩) (cv := fun _ => v) (fp := fun j b => j = 0 ∧ F b) (free_look hf)
    (fun j b hb => ⟨(hF b hb.2).1, (hF b hb.2).2.1, (hF b hb.2).2.2.1, (hF b hb.2).2.2.2.1, (hF b hb.2).2.2.2.2, ⟨0, 0, .own k x⟩, k, x, by rw [hb.1]; rfl, rfl⟩)
    (fun j j' b h1 h2 => h1.1.trans h2.1.symm) (fun hb => by simp at hb)
    (fun j c hj => by
      cases j with
      | zero =>
        simp only [List.getElem?_cons_zero, Option.some.injEq] at hj
        subst hj
        exact Own.frame _ _ _ _ _ (fun b hb => ⟨rfl, hb⟩) (fun _ _ _ => rfl) ho
      | succ j => simp at hj)
  refine ⟨_, h6.bindV hd (tv := .v (.ref d 0 0)) ⟨⟨0, 0, .own k x⟩, ?_, Nat.le_refl _, fun _ => by simp [Gh.at]⟩⟩
  show (match look ((d, (⟨false, [⟨0, 0, .own k x⟩]⟩ : Rt)) :: st.rt) d with | some R => R.cells[0]? | none => none) = _
  rw [look_cons, if_pos rfl]
  rfl
end
end Go.Av
namespace Go.Av
open Go.RowKit (Below)
section
variable {P : Program} {w : World} {E : En}
theorem append_fits {t t2 ty : TypeId} {e : TypeId} {te : TI} (ht : P.underlying t = some (.slice e)) (hTe : TIok P e te) {d2 : TypeDesc} (h2 : P.underlying t2 = some d2) (h2' : ∀ k, d2 ≠ .int k) {b o sLen sCap n : Nat} {vx : Value} {news : List Value} {ats : Array TypeId} (hat : ats[0]? = some t) (hat2 : ats[1]? = some t2)
    (hl : (Builtin.lenOf vx).run P w = .ok n w) (hf : (Builtin.firstCells te.ks.length n vx).run P w = .ok news.toArray w) (hc : sLen + n ≤ sCap) (h1 : ∀ u ∈ news, u.oneCell' = true)
    (hcell : ∀ j, j < news.length → ∃ cs el fr, w.heap[b]? = some (.cells cs el fr) ∧ o + sLen * te.ks.length + j < cs.size ∧ ¬ (fr.1 ≤ o + sLen * te.ks.length + j ∧ o + sLen * te.ks.length + j < fr.2)) :
    (Builtin.append_ ats ty #[.slice (some ⟨b, o, none⟩) sLen sCap, vx]).run P w = .ok (.slice (some ⟨b, o, none⟩) (sLen + n) sCap) (w.setCells b (o + sLen * te.ks.length) news) := by
  have hst := run_storeCells_cells (P := P) b (o + sLen * te.ks.length) news 0 w (fun j hj => by
    obtain ⟨cs, el, fr, e1, e2, _⟩ := hcell j hj
    simp [World.cell?, e1, e2]) (fun j hj => by
    obtain ⟨cs, el, fr, e1, e2, e3⟩ := hcell j hj
    simp only [World.frozen?, Nat.add_zero, e1]
    simp only [Bool.and_eq_false_iff, decide_eq_false_iff_not]
    by_cases h : fr.1 ≤ o + sLen * te.ks.length + j
    · exact .inr fun h' => e3 ⟨h, h'⟩
    · exact .inl h) h1
  rw [Nat.add_zero] at hst
  have hz : (match d2 with | .int _ => true | _ => false) = false := by cases d2 <;> first | rfl | exact absurd rfl (h2' _)
  simp only [Builtin.append_, hat, hat2, List.getElem?_toArray, List.getElem?_cons_zero, List.getElem?_cons_succ, Sem.run_bind, run_underlying ht, Result.andThen_ok, run_sizeOf' hTe, run_underlying h2, Sem.run_pure, hz, Bool.false_eq_true, if_false, hl, hc, if_true, Bool.not_false, hf, add_mk, hst]
theorem append_nil {t t2 ty : TypeId} {e : TypeId} {te : TI} (ht : P.underlying t = some (.slice e)) (hTe : TIok P e te) {d2 : TypeDesc} (h2 : P.underlying t2 = some d2) (h2' : ∀ k, d2 ≠ .int k) {vx : Value} {news : List Value} {ats : Array TypeId} (hat : ats[0]? = some t) (hat2 : ats[1]? = some t2)
    (hl : (Builtin.lenOf vx).run P w = .ok 0 w) (hf : (Builtin.firstCells te.ks.length 0 vx).run P w = .ok news.toArray w) :
    (Builtin.append_ ats ty #[.slice none 0 0, vx]).run P w = .ok (.slice none 0 0) w := by
  have hz : (match d2 with | .int _ => true | _ => false) = false := by cases d2 <;> first | rfl | exact absurd rfl (h2' _)
  simp only [Builtin.append_, hat, hat2, List.getElem?_toArray, List.getElem?_cons_zero, List.getElem?_cons_succ, Sem.run_bind, run_underlying ht, Result.andThen_ok, run_sizeOf' hTe, run_underlying h2, Sem.run_pure, hz, Bool.false_eq_true, if_false, hl, Nat.le_refl, Nat.add_zero, if_true, Bool.not_false, hf]
theorem append_grows {t t2 ty : TypeId} {e : TypeId} {te : TI} (ht : P.underlying t = some (.slice e)) (hTe : TIok P e te) {d2 : TypeDesc} (h2 : P.underlying t2 = some d2) (h2' : ∀ k, d2 ≠ .int k) {base : Option Addr} {sLen sCap n : Nat} {vx : Value} {olds news : List Value} {ats : Array TypeId} (hat : ats[0]? = some t) (hat2 : ats[1]? = some t2)
    (hl : (Builtin.lenOf vx).run P w = .ok n w) (hfo : (Builtin.firstCells te.ks.length sLen (.slice base sLen sCap)).run P w.drew = .ok olds.toArray w.drew) (hf : (Builtin.firstCells te.ks.length n vx).run P w.drew = .ok news.toArray w.drew) (hc : sCap < sLen + n) (hby : 0 < te.bytes) (hb : (sLen + n) * te.bytes ≤ big) :
    ∃ zs : Array Value, zs.size = (grownCap w (sLen + n) sCap e - (sLen + n)) * te.ks.length ∧ (Builtin.append_ ats ty #[.slice base sLen sCap, vx]).run P w = .ok (.slice (some ⟨w.heap.size, 0, none⟩) (sLen + n) (grownCap w (sLen + n) sCap e)) (w.drew.alloc (.cells (olds.toArray ++ news.toArray ++ zs) e (0, 0))) := by
  have hz : (match d2 with | .int _ => true | _ => false) = false := by cases d2 <;> first | rfl | exact absurd rfl (h2' _)
  obtain ⟨i, e1, e2, e3, z, e4, e5⟩ := hTe.info
  have hzs : z.cells.size = te.ks.length := by rw [← Array.length_toList, e5]; simp
  refine ⟨Builtin.zeroCells z.cells (grownCap w (sLen + n) sCap e - (sLen + n)), by rw [size_zeroCells, hzs], ?_⟩
  have hn : ¬ (sLen + n ≤ sCap) := by omega
  have hbb : (sLen + n) * te.bytes ≤ 140737488355328 := hb
  have hle : sLen + n ≤ (sLen + n) * te.bytes := Nat.le_mul_of_pos_right _ hby
  have h63 : ¬ (9223372036854775807 < ((sLen : Int) + (n : Int))) := by omega
  have h48 : ¬ (281474976710656 < Builtin.nextslicecap (sLen + n) sCap * i.bytes) := by
    have := growslice_fits (need := sLen + n) (old := sCap) (bytes := i.bytes) hc (by rw [e3]; exact hbb)
    omega
  have hfo' : (Builtin.firstCells i.size sLen (.slice base sLen sCap)).run P w.drew = .ok olds.toArray w.drew := by rw [e2]; exact hfo
  have hf' : (Builtin.firstCells i.size n vx).run P w.drew = .ok news.toArray w.drew := by rw [e2]; exact hf
  simp [Builtin.append_, hat, hat2, run_underlying ht, run_underlying h2, sizeOf, typeInfo, zeroValue, e1, e4, hl, hn, h63, h48, Question.forced, hf', hfo', newRow, grownCap, hz]
  congr 2
  rw [← Array.append_assoc]
  congr 1
  simp
end
end Go.Av
namespace Go.Av
open Go.RowKit (Below)
section
variable {P : Program} {cx : Cx P} {Z : Nat → Prop} {g : Gh} {st : St} {a : Act} {w : World} {E : En}
theorem ResCells_len {fresh : Bool} {H : Nat → Nat → Prop} : ∀ (ks : List K) (x : Tl ks) (cs : List Value) (j : Nat), ResCells fresh Z w H ks x cs j → cs.length = ks.length
  | [], _, [], _, _ => rfl
  | .sl e ks' :: ks, x, v :: vs, j, h => congrArg (· + 1) (ResCells_len ks x.2 vs _ h.2)
  | .int _ :: ks, x, v :: vs, j, h => congrArg (· + 1) (ResCells_len ks x.2 vs _ h.2)
  | .bool :: ks, x, v :: vs, j, h => congrArg (· + 1) (ResCells_len ks x.2 vs _ h.2)
  | .str :: ks, x, v :: vs, j, h => congrArg (· + 1) (ResCells_len ks x.2 vs _ h.2)
  | [], _, _ :: _, _, h => h.elim
  | .sl _ _ :: _, _, [], _, h => h.elim
  | .int _ :: _, _, [], _, h => h.elim
  | .bool :: _, _, [], _, h => h.elim
  | .str :: _, _, [], _, h => h.elim
theorem ResCells_ones {H : Nat → Nat → Prop} : ∀ (ks : List K) (x : Tl ks) (cs : List Value) (j : Nat), ResCells true Z w H ks x cs j → ∀ u ∈ cs, u.oneCell' = true
  | [], _, [], _, _ => by simp
  | .sl e ks' :: ks, x, v :: vs, j, h => fun u hu => by
    rcases List.mem_cons.1 hu with hu | hu
    · subst hu; exact (Own_one h.1).2
    · exact ResCells_ones ks x.2 vs _ h.2 u hu
  | .int _ :: ks, x, v :: vs, j, h => fun u hu => by
    rcases List.mem_cons.1 hu with hu | hu
    · subst hu; exact (RO_one h.1).2
    · exact ResCells_ones ks x.2 vs _ h.2 u hu
  | .bool :: ks, x, v :: vs, j, h => fun u hu => by
    rcases List.mem_cons.1 hu with hu | hu
    · subst hu; exact (RO_one (k := .bool) h.1).2
    · exact ResCells_ones ks x.2 vs _ h.2 u hu
  | .str :: ks, x, v :: vs, j, h => fun u hu => by
    rcases List.mem_cons.1 hu with hu | hu
    · subst hu; exact (RO_one (k := .str) h.1).2
    · exact ResCells_ones ks x.2 vs _ h.2 u hu
  | [], _, _ :: _, _, h => h.elim
  | .sl _ _ :: _, _, [], _, h => h.elim
  | .int _ :: _, _, [], _, h => h.elim
  | .bool :: _, _, [], _, h => h.elim
  | .str :: _, _, [], _, h => h.elim
theorem res_ownl {H : Nat → Nat → Prop} (hd : ∀ n m b, H n b → H m b → n = m) {cs : Array Value} : ∀ (ks : List K) (x : Tl ks) (vs : List Value) (j j0 o : Nat), ResCells true Z w H ks x vs j → (∀ q, q < vs.length → cs[o + q]? = vs[q]?) →
    ∃ G : Nat → Nat → Prop, Ownl w ks x j0 G cs o ∧ (∀ q b, G q b → j0 ≤ q ∧ ∃ n, j ≤ n ∧ H n b) ∧ (∀ q q' b, G q b → G q' b → q = q')
  | [], _, [], j, j0, o, _, _ => ⟨fun _ _ => False, trivial, fun _ _ h => h.elim, fun _ _ _ h => h.elim⟩
  | .sl e ks' :: ks, x, v :: vs, j, j0, o, h, hc => by
    obtain ⟨G, g1, g2, g3⟩ := res_ownl hd ks x.2 vs (j + 1) (j0 + 1) (o + 1) h.2 fun q hq => by rw [show o + 1 + q = o + (q + 1) by omega]; exact hc (q + 1) (by simp; omega)
    refine ⟨fun q b => if q = j0 then H j b else G q b, ⟨⟨v, by have := hc 0 (by simp); simpa using this, Own.frame _ _ _ _ _ (fun b hb => by dsimp only; rw [if_pos rfl]; exact hb) (fun _ _ _ => rfl) h.1⟩, ?_⟩, fun q b hb => ?_, fun q q' b hb hb' => ?_⟩
    · refine Ownl.frame ks x.2 (j0 + 1) G _ cs (o + 1) (fun q b hb => ?_) (fun _ _ _ _ => rfl) g1
      have := (g2 q b hb).1
      rw [if_neg (by omega)]
      exact hb
    · dsimp only at hb
      split at hb
      · exact ⟨by omega, j, Nat.le_refl _, hb⟩
      · obtain ⟨k1, n, k2, k3⟩ := g2 q b hb
        exact ⟨by omega, n, by omega, k3⟩
    · dsimp only at hb hb'
      split at hb
      · split at hb'
        · omega
        · obtain ⟨_, n, k2, k3⟩ := g2 q' b hb'
          have := hd j n b hb k3
          omega
      · split at hb'
        · obtain ⟨_, n, k2, k3⟩ := g2 q b hb
          have := hd j n b hb' k3
          omega
        · exact g3 q q' b hb hb'
  | .int k :: ks, x, v :: vs, j, j0, o, h, hc => by
    obtain ⟨G, g1, g2, g3⟩ := res_ownl hd ks x.2 vs j (j0 + 1) (o + 1) h.2 fun q hq => by rw [show o + 1 + q = o + (q + 1) by omega]; exact hc (q + 1) (by simp; omega)
    exact ⟨G, ⟨⟨v, by have := hc 0 (by simp); simpa using this, own_of_ro rfl h.1⟩, g1⟩, fun q b hb => ⟨by have := (g2 q b hb).1; omega, (g2 q b hb).2⟩, g3⟩
  | .bool :: ks, x, v :: vs, j, j0, o, h, hc => by
    obtain ⟨G, g1, g2, g3⟩ := res_ownl hd ks x.2 vs j (j0 + 1) (o + 1) h.2 fun q hq => by rw [show o + 1 + q = o + (q + 1) by omega]; exact hc (q + 1) (by simp; omega)
    exact ⟨G, ⟨⟨v, by have := hc 0 (by simp); simpa using this, own_of_ro (k := .bool) rfl h.1⟩, g1⟩, fun q b hb => ⟨by have := (g2 q b hb).1; omega, (g2 q b hb).2⟩, g3⟩
  | .str :: ks, x, v :: vs, j, j0, o, h, hc => by
    obtain ⟨G, g1, g2, g3⟩ := res_ownl hd ks x.2 vs j (j0 + 1) (o + 1) h.2 fun q hq => by rw [show o + 1 + q = o + (q + 1) by omega]; exact hc (q + 1) (by simp; omega)
    exact ⟨G, ⟨⟨v, by have := hc 0 (by simp); simpa using this, own_of_ro (k := .str) rfl h.1⟩, g1⟩, fun q b hb => ⟨by have := (g2 q b hb).1; omega, (g2 q b hb).2⟩, g3⟩
  | [], _, _ :: _, _, _, _, h, _ => h.elim
  | .sl _ _ :: _, _, [], _, _, _, h, _ => h.elim
  | .int _ :: _, _, [], _, _, _, h, _ => h.elim
  | .bool :: _, _, [], _, _, _, h, _ => h.elim
  | .str :: _, _, [], _, _, _, h, _ => h.elim
theorem flat_ownl {Z' : Nat → Prop} {G : Nat → Nat → Prop} {cs : Array Value} : ∀ (ks : List K) (x : Tl ks) (j b o o' : Nat), flat ks = true → ROl Z' w ks x b o → (∀ q, q < ks.length → cs[o' + q]? = w.cell? ⟨b, o + q, none⟩) → Ownl w ks x j G cs o'
  | [], _, _, _, _, _, _, _, _ => trivial
  | .int k :: ks, x, j, b, o, o', hf, ⟨⟨v, h1, h2⟩, h3⟩, hc => ⟨⟨v, by rw [← h1]; exact hc 0 (by simp), own_of_ro rfl h2⟩, flat_ownl ks x.2 (j + 1) b (o + 1) (o' + 1) hf h3 fun q hq => by rw [show o' + 1 + q = o' + (q + 1) by omega, show o + 1 + q = o + (q + 1) by omega]; exact hc (q + 1) (by simp; omega)⟩
  | .bool :: ks, x, j, b, o, o', hf, ⟨⟨v, h1, h2⟩, h3⟩, hc => ⟨⟨v, by rw [← h1]; exact hc 0 (by simp), own_of_ro (k := .bool) rfl h2⟩, flat_ownl ks x.2 (j + 1) b (o + 1) (o' + 1) hf h3 fun q hq => by rw [show o' + 1 + q = o' + (q + 1) by omega, show o + 1 + q = o + (q + 1) by omega]; exact hc (q + 1) (by simp; omega)⟩
  | .str :: ks, x, j, b, o, o', hf, ⟨⟨v, h1, h2⟩, h3⟩, hc => ⟨⟨v, by rw [← h1]; exact hc 0 (by simp), own_of_ro (k := .str) rfl h2⟩, flat_ownl ks x.2 (j + 1) b (o + 1) (o' + 1) hf h3 fun q hq => by rw [show o' + 1 + q = o' + (q + 1) by omega, show o + 1 + q = o + (q + 1) by omega]; exact hc (q + 1) (by simp; omega)⟩
  | .sl _ _ :: _, _, _, _, _, _, hf, _, _ => by simp [flat] at hf
theorem ROl_one {Z' : Nat → Prop} : ∀ (ks : List K) (x : Tl ks) (b o q : Nat), ROl Z' w ks x b o → q < ks.length → ∃ v, w.cell? ⟨b, o + q, none⟩ = some v ∧ v.oneCell' = true
  | [], _, _, _, _, _, hq => by simp at hq
  | k :: ks, x, b, o, 0, ⟨⟨v, h1, h2⟩, _⟩, _ => ⟨v, h1, (RO_one h2).2⟩
  | k :: ks, x, b, o, q + 1, ⟨_, h3⟩, hq => by
    obtain ⟨v, h1, h2⟩ := ROl_one ks x.2 b (o + 1) q h3 (by simpa using hq)
    exact ⟨v, by rw [show o + (q + 1) = o + 1 + q by omega]; exact h1, h2⟩
theorem Ownl_one {G : Nat → Nat → Prop} {cs : Array Value} : ∀ (ks : List K) (x : Tl ks) (j o q : Nat), Ownl w ks x j G cs o → q < ks.length → ∃ v, cs[o + q]? = some v ∧ v.oneCell' = true
  | [], _, _, _, _, _, hq => by simp at hq
  | k :: ks, x, j, o, 0, ⟨⟨v, h1, h2⟩, _⟩, _ => ⟨v, h1, (Own_one h2).2⟩
  | k :: ks, x, j, o, q + 1, ⟨_, h3⟩, hq => by
    obtain ⟨v, h1, h2⟩ := Ownl_one ks x.2 (j + 1) (o + 1) q h3 (by simpa using hq)
    exact ⟨v, by rw [show o + (q + 1) = o + 1 + q by omega]; exact h1, h2⟩
theorem split_idx {m n q : Nat} (h : q < m * n) : q / n < m ∧ q % n < n ∧ q = q / n * n + q % n := by
  have hn : 0 < n := by
    rcases Nat.eq_zero_or_pos n with h0 | h0
    · subst h0; simp at h
    · exact h0
  exact ⟨Nat.div_lt_of_lt_mul (by rw [Nat.mul_comm]; exact h), Nat.mod_lt _ hn, by rw [Nat.mul_comm]; exact (Nat.div_add_mod q n).symm⟩
structure News (P : Program) (cx : Cx P) (Z : Nat → Prop) (g g' : Gh) (st st' : St) (w : World) (ks : List K) (ys : List (Tl ks)) (v : Value) (news : List Value) (H : Nat → Nat → Nat → Prop) (FH : Nat → Prop) : Prop where
  rows : NewRows w ks ys news H FH
  len : (Builtin.lenOf v).run P w = .ok ys.length w
  cells : ∀ w1 : World, w1.heap = w.heap → (Builtin.firstCells ks.length ys.length v).run P w1 = .ok news.toArray w1
  free : Free cx Z g' st' w FH
  other : ∀ F, Free cx Z g st w F → Free cx Z g' st' w F ∧ ∀ b, FH b → ¬ F b
  tm : st'.tm = st.tm
theorem News.none_of {ks : List K} {ys : List (Tl ks)} {v : Value} {news : List Value} (h1 : news.length = ys.length * ks.length) (h2 : ∀ u ∈ news, u.oneCell' = true) (h3 : ∀ (i : Nat) (y : Tl ks), ys[i]? = some y → Ownl w ks y 0 (fun _ _ => False) news.toArray (i * ks.length))
    (h4 : (Builtin.lenOf v).run P w = .ok ys.length w) (h5 : ∀ w1 : World, w1.heap = w.heap → (Builtin.firstCells ks.length ys.length v).run P w1 = .ok news.toArray w1) : News P cx Z g g st st w ks ys v news (fun _ _ _ => False) (fun _ => False) :=
  ⟨⟨h1, h2, fun _ _ _ h => h, fun _ _ _ _ _ h => h.elim, h3⟩, h4, h5, Free.none _ _ _ _ _, fun F hF => ⟨hF, fun _ h => h.elim⟩, rfl⟩
theorem news_flat (h : Rel cx Z g st a w) {e : TypeId} {ks : List K} {z : T (.sl e ks)} {v : Value} (hro : RO (Zall w) w (.sl e ks) z v) (hf : flat ks = true) : ∃ news, News P cx Z g g st st w ks (els z) v news (fun _ _ _ => False) (fun _ => False) := by
  obtain ⟨aa, c, rfl, h2, h3, h4, h5⟩ := hro
  by_cases hne : els z = []
  · refine ⟨[], News.none_of (by rw [hne]; simp) (by simp) (fun i y hi => by rw [hne] at hi; simp at hi) rfl fun w1 _ => ?_⟩
    rw [hne]
    cases aa with
    | none => exact run_firstCells_none (P := P) w1 _ _ _ _
    | some b => exact run_firstCells_some (P := P) w1 _ _ b _ _ [] (by simp) (fun j v hj => by simp at hj)
  · obtain ⟨b, o, rfl, _, _, hrow⟩ := h5 hne
    have hcell : ∀ q, q < (els z).length * ks.length → ∃ v, w.cell? ⟨b, o + q, none⟩ = some v ∧ v.oneCell' = true := fun q hq => by
      obtain ⟨q1, q2, q3⟩ := split_idx hq
      obtain ⟨v, k1, k2⟩ := ROl_one ks _ b _ (q % ks.length) (hrow _ _ (List.getElem?_eq_getElem q1)) q2
      exact ⟨v, by rw [q3, ← Nat.add_assoc]; exact k1, k2⟩
    have hnl : ∀ q, q < (els z).length * ks.length → ((List.range ((els z).length * ks.length)).map fun q => (w.cell? ⟨b, o + q, none⟩).getD undef)[q]? = w.cell? ⟨b, o + q, none⟩ := fun q hq => by
      obtain ⟨v, k1, _⟩ := hcell q hq
      simp [hq, k1]
    refine ⟨(List.range ((els z).length * ks.length)).map fun q => (w.cell? ⟨b, o + q, none⟩).getD undef, News.none_of (by simp) (fun u hu => ?_) (fun i y hi => ?_) rfl fun w1 hw1 => ?_⟩
    · obtain ⟨q, hq, rfl⟩ := List.mem_map.1 hu
      obtain ⟨v, k1, k2⟩ := hcell q (List.mem_range.1 hq)
      rw [k1]
      exact k2
    · have hil : i < (els z).length := by
        rcases Nat.lt_or_ge i (els z).length with hh | hh
        · exact hh
        · simp [List.getElem?_eq_none hh] at hi
      refine flat_ownl ks y 0 b _ _ hf (hrow i y hi) fun q hq => ?_
      have := hnl (i * ks.length + q) (idx_lt hil hq)
      rw [List.getElem?_toArray, this, Nat.add_assoc]
    · refine run_firstCells_some (P := P) w1 _ _ ⟨b, o, none⟩ _ _ _ (by simp) fun j v hj => ?_
      have hjl : j < (els z).length * ks.length := by
        rcases Nat.lt_or_ge j ((els z).length * ks.length) with hh | hh
        · exact hh
        · rw [List.getElem?_eq_none (by simpa using hh)] at hj; simp at hj
      rw [hnl j hjl] at hj
      rw [add_mk]
      simp only [World.cell?, hw1] at hj ⊢
      exact hj
end
end Go.Av
namespace Go.Av
open Go.RowKit (Below)
section
variable {P : Program} {cx : Cx P} {Z : Nat → Prop} {g : Gh} {st : St} {a : Act} {w : World} {E : En}
def byteVals : List UInt8 → List Value
  | [] => []
  | c :: s => .int .u8 c.toNat :: byteVals s
theorem byteVals_length : ∀ s, (byteVals s).length = s.length
  | [] => rfl
  | _ :: s => congrArg (· + 1) (byteVals_length s)
theorem byteVals_map : ∀ s : List UInt8, byteVals s = s.map fun b => Value.int .u8 b.toNat
  | [] => rfl
  | c :: s => congrArg (Value.int .u8 c.toNat :: ·) (byteVals_map s)
theorem byteVals_get : ∀ (s : List UInt8) (i : Nat), i < s.length → (byteVals s)[i]? = some (.int .u8 (s.getD i 0).toNat)
  | [], i, h => by simp at h
  | c :: s, 0, _ => rfl
  | c :: s, i + 1, h => byteVals_get s i (by simpa using h)
theorem news_str (e : TypeId) (s : List UInt8) : ∃ news, News P cx Z g g st st w [.int .u8] (els (e := e) (bytesOf s)) (.string (mkS s)) news (fun _ _ _ => False) (fun _ => False) := by
  have hl : (els (e := e) (bytesOf s)).length = s.length := bytesOf_length s
  refine ⟨byteVals s, News.none_of (by rw [byteVals_length, hl]; simp) (fun u hu => ?_) (fun i y hi => ?_) ?_ fun w1 _ => ?_⟩
  · rw [byteVals_map] at hu
    obtain ⟨c, _, rfl⟩ := List.mem_map.1 hu
    rfl
  · obtain ⟨hi1, rfl⟩ := bytesOf_get s i y hi
    refine ⟨⟨_, by rw [List.getElem?_toArray]; simpa using byteVals_get s i hi1, rfl, ?_⟩, trivial⟩
    have := (s.getD i 0).toNat_lt
    have e1 : IntKind.u8.min = 0 := rfl
    have e2 : IntKind.u8.max = 255 := rfl
    unfold inR
    rw [e1, e2]
    show 0 ≤ ((s.getD i 0).toNat : Int) ∧ ((s.getD i 0).toNat : Int) ≤ 255
    omega
  · rw [hl]
    show Result.ok (mkS s).size w = _
    rw [size_mkS]
  · rw [hl]
    have : ((mkS s).extract 0 s.length).data.map (fun b => Value.int .u8 b.toNat) = (byteVals s).toArray := by
      rw [byteVals_map]
      have h2 : (mkS s).extract 0 s.length = mkS s := by
        have : s.length = (mkS s).size := (size_mkS s).symm
        rw [this]
        apply ByteArray.ext
        simp [ByteArray.data_extract]
      rw [h2]
      simp [mkS]
    show Result.ok (((mkS s).extract 0 s.length).data.map (fun b => Value.int .u8 b.toNat)) w1 = _
    rw [this]
theorem news_own {g' : Gh} {st' : St} {e : TypeId} {ks : List K} {z : T (.sl e ks)} {v : Value} {F : Nat → Prop} (ho : Own w (.sl e ks) z v F) (hF : Free cx Z g' st' w F) (hfp : ∀ r j b, g'.fp r j b → g.fp r j b) (hsub : ∀ b, F b → ∃ r j, g.fp r j b) (hbe : g'.be = g.be) (hbx : ∀ r R', look st'.rt r = some R' → ∃ R, look st.rt r = some R ∧ R'.box = R.box) (htm : st'.tm = st.tm) :
    ∃ news H, News P cx Z g g' st st' w ks (els z) v news H F := by
  have oth : ∀ F', Free cx Z g st w F' → Free cx Z g' st' w F' ∧ ∀ b, F b → ¬ F' b := fun F' h' => ⟨h'.mono hfp hbe hbx, fun b hb hb' => by
    obtain ⟨r, j, hh⟩ := hsub b hb
    exact h'.fp b hb' r j hh⟩
  obtain ⟨aa, c, rfl, h2, h3, h4, h5⟩ := ho
  cases aa with
  | none =>
    have hz : els z = [] := List.length_eq_zero_iff.1 (by have := h4 rfl; omega)
    refine ⟨[], fun _ _ _ => False, ⟨by rw [hz]; simp, by simp, fun _ _ _ h => h.elim, fun _ _ _ _ _ h => h.elim, fun i y hi => by rw [hz] at hi; simp at hi⟩, rfl, fun w1 _ => by rw [hz]; exact run_firstCells_none (P := P) w1 _ _ _ _, hF, oth, htm⟩
  | some aa =>
    obtain ⟨b, o, cs, el, fr, rfl, k2, k3, k4, k5, G, k6, k7, k8⟩ := h5 _ rfl
    have hbound : ∀ q, q < (els z).length * ks.length → o + q < cs.size := fun q hq => by
      have := Nat.mul_le_mul_right ks.length h2
      omega
    have hnl : ∀ q, q < (els z).length * ks.length → ((List.range ((els z).length * ks.length)).map fun q => cs.getD (o + q) undef)[q]? = cs[o + q]? := fun q hq => by
      have := hbound q hq
      simp [hq, this]
    refine ⟨(List.range ((els z).length * ks.length)).map fun q => cs.getD (o + q) undef, G, ⟨by simp, fun u hu => ?_, fun i j b' hb' => (k6 i j b' hb').1, k7, fun i y hi => ?_⟩, rfl, fun w1 hw1 => ?_, hF, oth, htm⟩
    · obtain ⟨q, hq, rfl⟩ := List.mem_map.1 hu
      obtain ⟨q1, q2, q3⟩ := split_idx (List.mem_range.1 hq)
      obtain ⟨v, f1, f2⟩ := Ownl_one ks _ 0 _ (q % ks.length) (k8 _ _ (List.getElem?_eq_getElem q1)) q2
      rw [Nat.add_assoc, ← q3] at f1
      rw [Array.getD_eq_getD_getElem?, f1]
      exact f2
    · have hil : i < (els z).length := by
        rcases Nat.lt_or_ge i (els z).length with hh | hh
        · exact hh
        · simp [List.getElem?_eq_none hh] at hi
      refine Ownl_move ks y 0 (G i) (G i) cs _ _ _ (fun q hq => ?_) (fun _ _ h => h) (fun _ _ _ _ => rfl) (k8 i y hi)
      rw [List.getElem?_toArray, hnl _ (idx_lt hil hq), Nat.add_assoc]
    · refine run_firstCells_some (P := P) w1 _ _ ⟨b, o, none⟩ _ _ _ (by simp) fun j v hj => ?_
      have hjl : j < (els z).length * ks.length := by
        rcases Nat.lt_or_ge j ((els z).length * ks.length) with hh | hh
        · exact hh
        · rw [List.getElem?_eq_none (by simpa using hh)] at hj; simp at hj
      rw [hnl j hjl] at hj
      rw [add_mk]
      simp only [World.cell?, hw1, k3]
      exact hj
theorem news_brow (h : Rel cx Z g st a w) {r : Nat} {l : List RC} {v : Value} {ks : List K} {x : Tl ks} {st' : St} (hl : look st.rt r = some ⟨true, l⟩) (hv : v = .slice (some ⟨g.be r, 0, none⟩) 1 1) (ht : toTl st true ks (l.map avOf) = some (st', x)) :
    ∃ g' news H FH, Rel cx Z g' st' a w ∧ News P cx Z g g' st st' w ks [x] v news H FH := by
  obtain ⟨b1, b2, b3, b4, cs, el, fr, b5, b6, b7, b8⟩ := h.box r _ hl rfl
  have hrel : RelAVs Z g st w (l.map avOf) cs.toList := by
    refine RelAVs_mk (by simp [b7]) fun j y u hj hu => ?_
    rw [List.getElem?_map] at hj
    cases hc : l[j]? with
    | none => rw [hc] at hj; simp at hj
    | some c =>
      rw [hc] at hj
      simp only [Option.map_some, Option.some.injEq] at hj
      have hcell : st.cell r j = some c := by simp only [St.cell, hl]; exact hc
      have hjl : j < cs.size := by
        rw [b7]
        exact cell_lt hcell hl
      rw [Array.getElem?_toList, b8 j hjl] at hu
      simp only [Option.some.injEq] at hu
      subst hj
      subst hu
      unfold avOf
      cases hcv : c.v with
      | own k y => trivial
      | av y => exact cell_av h hcell hcv
  obtain ⟨g', H0, m1, m2, m3⟩ := toTl_rel true ks (l.map avOf) cs.toList st g st' x 0 h hrel ht
  have htm : st'.tm = st.tm := by
    have : ∀ (ks : List K) (l : List AV) (st st' : St) (x : Tl ks), toTl st true ks l = some (st', x) → st'.tm = st.tm := by
      intro ks
      induction ks with
      | nil => intro l st st' x hh; cases l with | nil => cases hh; rfl | cons _ _ => simp [toTl] at hh
      | cons k ks ih =>
        intro l st st' x hh
        cases l with
        | nil => cases k <;> simp [toTl] at hh
        | cons av l =>
          cases k with
          | sl e ks' =>
            unfold toTl at hh
            simp only [cond_true] at hh
            split at hh
            · rename_i st1 y hy
              split at hh
              · rename_i q hq
                cases hh
                exact (ih l st1 q.1 q.2 hq).trans (takeAs_shape hy 0).2
              · simp at hh
            · simp at hh
          | _ =>
            unfold toTl at hh
            split at hh
            · rename_i y q hy hf hq
              cases hh
              exact ih l st q.1 q.2 hq
            · simp at hh
    exact this ks _ st st' x ht
  obtain ⟨G, n1, n2, n3⟩ := res_ownl (H := H0) m2.disj (cs := cs) ks x cs.toList 0 0 0 m3 fun q hq => by rw [Nat.zero_add, Array.getElem?_toList]
  have hlen := ResCells_len ks x _ 0 m3
  have hfree : Free cx Z g' st' w (fun b => ∃ n, H0 n b) := ⟨fun b ⟨n, hb⟩ => (m2.free n).lt b hb, fun b ⟨n, hb⟩ => (m2.free n).own b hb, fun b ⟨n, hb⟩ => (m2.free n).z b hb, fun b ⟨n, hb⟩ => (m2.free n).fp b hb, fun b ⟨n, hb⟩ => (m2.free n).box b hb⟩
  refine ⟨g', cs.toList, fun i j b => i = 0 ∧ G j b, fun b => ∃ n, H0 n b, m1, ⟨by simpa using hlen, ResCells_ones ks x _ 0 m3, fun i j b hb => by
    obtain ⟨_, n, _, hh⟩ := n2 j b hb.2
    exact ⟨n, hh⟩, fun i j i' j' b hb hb' => ⟨hb.1.trans hb'.1.symm, n3 j j' b hb.2 hb'.2⟩, fun i y hi => ?_⟩, by rw [hv]; rfl, fun w1 hw1 => ?_, hfree, fun F hF => ⟨hF.mono m2.fp m2.be m2.box, fun b ⟨n, hb⟩ hb' => by
    obtain ⟨r0, j0, hh⟩ := m2.sub n b hb
    exact hF.fp b hb' r0 j0 hh⟩, htm⟩
  · cases i with
    | zero =>
      simp only [List.getElem?_cons_zero, Option.some.injEq] at hi
      subst hi
      rw [Nat.zero_mul, Array.toArray_toList]
      exact Ownl.frame ks x 0 G _ cs 0 (fun j b hb => ⟨rfl, hb⟩) (fun _ _ _ _ => rfl) n1
    | succ i => simp at hi
  · rw [hv]
    refine run_firstCells_some (P := P) w1 _ _ ⟨g.be r, 0, none⟩ _ _ _ (by simpa using hlen) fun j u hj => ?_
    rw [add_mk, Nat.zero_add]
    simp only [World.cell?, hw1, b5]
    rw [Array.getElem?_toList] at hj
    exact hj
theorem news_rel (h : Rel cx Z g st a w) {e : TypeId} {ks : List K} {y : TV} {v : Value} (hr : RelTV Z g st w y v) {st' : St} {ys : List (Tl ks)} (hn : st.news e ks y = some (st', ys)) : ∃ g' news H FH, Rel cx Z g' st' a w ∧ News P cx Z g g' st st' w ks ys v news H FH := by
  have src : ∀ av, RelTV Z g st w (.v av) v → (match st.source (.sl e ks) ks av with | some (st', z) => some (st', els z) | none => none) = some (st', ys) → ∃ g' news H FH, Rel cx Z g' st' a w ∧ News P cx Z g g' st st' w ks ys v news H FH := by
    intro av hra hh
    unfold St.source at hh
    cases hf : flat ks with
    | true =>
      rw [hf] at hh
      simp only [cond_true] at hh
      cases hra' : st.readAs (.sl e ks) av with
      | none => rw [hra'] at hh; simp at hh
      | some z =>
        rw [hra'] at hh
        cases hh
        obtain ⟨news, hnews⟩ := news_flat (P := P) h (readAs_ro h hra hra') hf
        exact ⟨g, news, _, _, h, hnews⟩
    | false =>
      rw [hf] at hh
      simp only [cond_false] at hh
      cases htk : st.takeAs (.sl e ks) av with
      | none => rw [htk] at hh; simp at hh
      | some q =>
        obtain ⟨st1, z⟩ := q
        rw [htk] at hh
        cases hh
        obtain ⟨g1, F, k1, k2, k3, k4, k5, k6, k7⟩ := takeAs_rel h hra htk
        obtain ⟨news, H, hnews⟩ := news_own (P := P) (g := g) (st := st) k3 k4 k5 k6 k2.be k2.box k2.tm
        exact ⟨g1, news, H, F, k1, hnews⟩
  cases y with
  | v av =>
    cases av with
    | d k s =>
      cases k with
      | str =>
        simp only [St.news] at hn
        split at hn
        · rename_i z hz
          cases hn
          obtain ⟨eq, hz⟩ := castK_some hz
          cases eq
          subst hz
          obtain ⟨hv, _⟩ := (hr : RO Z w .str s v)
          subst hv
          obtain ⟨news, hnews⟩ := news_str (P := P) (cx := cx) (Z := Z) (g := g) (st := st) (w := w) e s
          exact ⟨g, news, _, _, h, hnews⟩
        · simp at hn
      | _ => exact src _ hr hn
    | brow r n =>
      simp only [St.news] at hn
      cases hb : Nat.beq n 1 with
      | false => rw [hb] at hn; simp at hn
      | true =>
        rw [hb] at hn
        simp only [cond_true] at hn
        have hn1 := beq_eq hb
        subst hn1
        split at hn
        · rename_i l hl
          split at hn
          · rename_i st1 x hx
            cases hn
            obtain ⟨R, _, _, hv⟩ := (hr : RelAV Z g st w (.brow r 1) v)
            exact news_brow h hl hv hx
          · simp at hn
        · simp at hn
    | _ => exact src _ hr hn
  | _ => simp [St.news] at hn
end
end Go.Av
namespace Go.Av
open Go.RowKit (Below)
theorem setFrom_size : ∀ (vs : List Value) (o : Nat) (cs : Array Value), (setFrom cs o vs).size = cs.size
  | [], _, _ => rfl
  | v :: r, o, cs => by rw [setFrom, setFrom_size r]; simp
theorem setCells_heap (b : Nat) : ∀ (vs : List Value) (o : Nat) (w : World) (cs : Array Value) (el : TypeId) (fr : Nat × Nat), w.heap[b]? = some (.cells cs el fr) →
    (w.setCells b o vs).heap[b]? = some (.cells (setFrom cs o vs) el fr) ∧ (∀ i, i ≠ b → (w.setCells b o vs).heap[i]? = w.heap[i]?) ∧ (w.setCells b o vs).heap.size = w.heap.size ∧ (w.setCells b o vs).os = w.os ∧ (w.setCells b o vs).tape = w.tape ∧ (w.setCells b o vs).output = w.output
  | [], o, w, cs, el, fr, h => ⟨h, fun _ _ => rfl, rfl, rfl, rfl, rfl⟩
  | v :: r, o, w, cs, el, fr, h => by
    have h1 : (w.setCell ⟨b, o, none⟩ v).heap[b]? = some (.cells (cs.setIfInBounds o v) el fr) := by rw [setCell_heap, if_pos rfl, h]; rfl
    obtain ⟨g1, g2, g3, g4, g5, g6⟩ := setCells_heap b r (o + 1) _ _ el fr h1
    refine ⟨g1, fun i hi => ?_, ?_, g4, g5, g6⟩
    · rw [World.setCells, g2 i hi, setCell_heap, if_neg (fun e => hi e.symm)]
    · rw [World.setCells, g3]; simp [World.setCell]
section
variable {P : Program} {cx : Cx P} {Z : Nat → Prop} {g : Gh} {st : St} {a : Act} {w : World} {E : En}
theorem w_append (hT : TTok P E) (h : Rel cx Z g st a w) (hn : NoMay st) (hsz : Fit cx E a) {o : Oper} {d : Nat} (hd : o.dst = some d) (hdn : Dst cx a d) {c : Call} (ho : o.op = .call c) (hcal : c.callee = .builtin .append) {x y : Operand} (hargs : c.args.toList = [x, y]) {t t2 : Nat} {ts : List Nat} (hts : c.argTypes.toList = t :: t2 :: ts)
    {ti te : TI} (hti : E.ti t = some ti) (hte : E.sl t = some te) {tx ty : TV} (hx : st.get x = some tx) (hy : st.get y = some ty) (h2 : E.str t2 = true ∨ ∃ te2, E.sl t2 = some te2) {st' : St} (hrun : (st.append d ti.elem te tx ty).run = some st') : WStep P cx E st' a w o := by
  have hc := hn.cons.cons
  obtain ⟨ks0, q1, q2, q3, q4⟩ := sl_ti hT hte hti
  have hTe := hT _ _ q4
  obtain ⟨tt, ks1, t1, _, _, _, hu⟩ := sl_desc hT hte
  rw [hti] at t1
  simp only [Option.some.injEq] at t1
  subst t1
  obtain ⟨d2, hu2, hd2⟩ : ∃ d2, P.underlying t2 = some d2 ∧ ∀ k, d2 ≠ .int k := by
    rcases h2 with h2 | ⟨te2, h2⟩
    · exact ⟨_, str_desc hT h2, fun _ h => by simp at h⟩
    · obtain ⟨_, _, _, _, _, _, hu2⟩ := sl_desc hT h2
      exact ⟨_, hu2, fun _ h => by simp at h⟩
  unfold St.append at hrun
  obtain ⟨av, hav, hrun⟩ := Tr.run_ofO hrun
  obtain ⟨⟨st1, xs⟩, htk, hrun⟩ := Tr.run_ofO hrun
  obtain ⟨⟨st2, ys⟩, hnw, hrun⟩ := Tr.run_ofO hrun
  simp only at hnw hrun
  cases hcond : st2.free d && Nat.blt 0 te.bytes with
  | false => rw [hcond] at hrun; simp [Tr.run] at hrun
  | true =>
    rw [hcond] at hrun
    simp only [cond_true] at hrun
    simp only [Bool.and_eq_true] at hcond
    obtain ⟨hfree, hby⟩ := hcond
    have hby : 0 < te.bytes := Nat.lt_of_succ_le (Nat.le_of_ble_eq_true hby)
    obtain ⟨hble, hrun⟩ := Tr.run_need hrun
    simp only [Tr.run, Option.some.injEq] at hrun
    subst hrun
    have hbytes : ((els xs).length + ys.length) * te.bytes ≤ big := Nat.le_of_ble_eq_true hble
    have hbig : (els xs).length + ys.length ≤ big := Nat.le_trans (Nat.le_mul_of_pos_right _ hby) hbytes
    obtain ⟨g1, F, k1, k2, k3, k4, k5, k6, k7⟩ := takeAs_rel h (av?_rel (get_rel h hc hx) hav) htk
    obtain ⟨g2, news, H, FH, m1, m2⟩ := news_rel (P := P) k1 (RelTV.keep k2.keep _ _ (get_rel h hc hy)) hnw
    obtain ⟨f1, f2⟩ := m2.other F k4
    have hnm : NoMay (st2.bindT d (.v (.ref d 0 0), some ⟨false, [⟨0, 0, .own (.sl ti.elem te.ks) (cat te.ks (els xs) ys)⟩]⟩)) := fun t tv ht => by
      rw [bindT_tm] at ht
      split at ht
      · simp only [Option.some.injEq] at ht; subst ht; exact fun h => h
      · exact hn t tv (by rw [← k2.tm, ← m2.tm]; exact ht)
    refine ⟨hnm, fun next Q hk => ?_⟩
    have fin : ∀ (v' : Value) (w' : World) (F' : Nat → Prop), (Builtin.append_ c.argTypes o.type #[a.eval x, a.eval y]).run P w = .ok v' w' → Rel cx Z g2 st2 a w' → (∀ b, F' b → b < w'.heap.size ∧ (cx.F0 b ∨ cx.w0.heap.size ≤ b) ∧ ¬ Z b ∧ (∀ r j, ¬ g2.fp r j b) ∧ (∀ r' R', look st2.rt r' = some R' → R'.box = true → g2.be r' ≠ b)) →
        Own w' (.sl ti.elem te.ks) (cat te.ks (els xs) ys) v' F' → o.wp P a w next Q := by
      intro v' w' F' hr hrel hF' hown
      have hargs' : c.args = #[x, y] := by rw [← Array.toArray_toList (xs := c.args), hargs]
      have : (execOp a.eval o).run P w = .ok (.value v') w' := by
        simp only [execOp, ho, resolve, hcal, hargs', Sem.run_bind, Sem.run_pure, Result.andThen_ok, invoke, builtin, List.map_toArray, List.map_cons, List.map_nil, hr]
      unfold Oper.wp
      rw [this, Oper.upon_value, hd]
      obtain ⟨g3, hg⟩ := hrel.bindOwn hdn hfree hF' hown
      exact hk Z g3 _ _ hg (hsz.put _ _)
    have hat : c.argTypes[0]? = some t := by rw [← Array.getElem?_toList, hts]; rfl
    have hat2 : c.argTypes[1]? = some t2 := by rw [← Array.getElem?_toList, hts]; rfl
    have hFs : ∀ (w' : World), w.heap.size ≤ w'.heap.size → ∀ b, F b ∨ FH b → b < w'.heap.size ∧ (cx.F0 b ∨ cx.w0.heap.size ≤ b) ∧ ¬ Z b ∧ (∀ r j, ¬ g2.fp r j b) ∧ (∀ r' R', look st2.rt r' = some R' → R'.box = true → g2.be r' ≠ b) := fun w' hs b hb => by
      rcases hb with hb | hb
      · exact ⟨Nat.lt_of_lt_of_le (f1.lt b hb) hs, f1.own b hb, f1.z b hb, f1.fp b hb, f1.box b hb⟩
      · exact ⟨Nat.lt_of_lt_of_le (m2.free.lt b hb) hs, m2.free.own b hb, m2.free.z b hb, m2.free.fp b hb, m2.free.box b hb⟩
    obtain ⟨base, cap, ev, c1, c2, c3, c4⟩ := k3
    have hnl := m2.rows.len
    by_cases hfit : (els xs).length + ys.length ≤ cap
    · cases base with
      | none =>
        have hcap := c3 rfl
        have hx0 : els xs = [] := List.length_eq_zero_iff.1 (by omega)
        have hy0 : ys = [] := List.length_eq_zero_iff.1 (by omega)
        have e1 : a.eval x = .slice none 0 0 := by rw [ev, hx0, hcap]; rfl
        refine fin (.slice none 0 0) w (fun _ => False) ?_ m1 (fun b hb => hb.elim) ?_
        · rw [e1]
          refine append_nil (news := news) hu hTe hu2 hd2 hat hat2 ?_ ?_
          · have := m2.len; rw [hy0] at this; exact this
          · have := m2.cells w rfl; rw [hy0] at this; exact this
        · rw [hx0, hy0]
          exact Own_nil _ _
      | some aa =>
        obtain ⟨b, of, cs, el, fr, rfl, n2, n3, n4, n5, G, n6, n7, n8⟩ := c4 _ rfl
        obtain ⟨s1, s2, s3, s4, s5, s6⟩ := setCells_heap b news (of + (els xs).length * te.ks.length) w cs el fr n3
        have hroom : of + (els xs).length * te.ks.length + news.length ≤ cs.size := by
          have := Nat.mul_le_mul_right te.ks.length hfit
          rw [Nat.add_mul] at this
          omega
        refine fin (.slice (some ⟨b, of, none⟩) ((els xs).length + ys.length) cap) (w.setCells b (of + (els xs).length * te.ks.length) news) (fun q => F q ∨ FH q) ?_ (m1.wr f1 s4 s5 s6 (by rw [s3]; exact Nat.le_refl _) fun q _ hq => s2 q fun e => hq (by rw [e]; exact n2)) (hFs _ (by rw [s3]; exact Nat.le_refl _)) ?_
        · rw [ev]
          exact append_fits hu hTe hu2 hd2 hat hat2 m2.len (m2.cells w rfl) hfit m2.rows.one fun j hj => ⟨cs, el, fr, n3, by omega, n4 _ (by omega)⟩
        · refine own_cat (w := w) (b0 := b) (F := F) n6 n7 n8 m2.rows (fun q hq => ⟨f2 q hq, fun e => f2 q hq (by rw [e]; exact n2)⟩) s1 (fun q hq => n4 q (by rw [setFrom_size] at hq; exact hq)) (.inl n2) (fun q hq _ => .inl hq) (fun q hq => .inr hq) (fun i j q hq => (n6 i j q hq).2) (fun q hq e => f2 q hq (by rw [e]; exact n2)) (fun q _ hq _ => s2 q hq) (fun q hq => ?_) (fun q hq => ?_) hfit (by rw [setFrom_size]; exact n5) hbig
          · rw [setFrom_get _ _ _ _ hroom, if_neg (by omega)]
          · rw [setFrom_get _ _ _ _ hroom, if_pos (by omega)]
            congr 1
            omega
    · have hgrow : cap < (els xs).length + ys.length := by omega
      have hge := grownCap_ge w ((els xs).length + ys.length) cap ti.elem
      have hnot : ∀ q, F q ∨ FH q → q ≠ w.heap.size := fun q hq e => by
        have := (hFs w (Nat.le_refl _) q hq).1
        omega
      have olds : ∃ (olds : List Value) (b0 : Nat) (cs : Array Value) (of : Nat) (G : Nat → Nat → Nat → Prop), (Builtin.firstCells te.ks.length (els xs).length (.slice base (els xs).length cap)).run P w.drew = .ok olds.toArray w.drew ∧ olds.length = (els xs).length * te.ks.length ∧ (∀ q, q < (els xs).length * te.ks.length → olds[q]? = cs[of + q]?) ∧
          (∀ i j b, G i j b → F b ∧ b ≠ b0) ∧ (∀ i j i' j' b, G i j b → G i' j' b → i = i' ∧ j = j') ∧ (∀ i x, (els xs)[i]? = some x → Ownl w te.ks x 0 (G i) cs (of + i * te.ks.length)) ∧ (∀ q, FH q → q ≠ b0) := by
        cases base with
        | none =>
          have hcap := c3 rfl
          have hx0 : els xs = [] := List.length_eq_zero_iff.1 (by omega)
          refine ⟨[], w.heap.size, #[], 0, fun _ _ _ => False, ?_, by rw [hx0]; simp, fun q hq => by rw [hx0] at hq; simp at hq, fun _ _ _ h => h.elim, fun _ _ _ _ _ h => h.elim, fun i x hi => by rw [hx0] at hi; simp at hi, fun q hq => hnot q (.inr hq)⟩
          exact run_firstCells_none (P := P) w.drew _ _ _ _
        | some aa =>
          obtain ⟨b, of, cs, el, fr, rfl, n2, n3, n4, n5, G, n6, n7, n8⟩ := c4 _ rfl
          have hbound : ∀ q, q < (els xs).length * te.ks.length → of + q < cs.size := fun q hq => by
            have := Nat.mul_le_mul_right te.ks.length c1
            omega
          have hnl' : ∀ q, q < (els xs).length * te.ks.length → ((List.range ((els xs).length * te.ks.length)).map fun q => cs.getD (of + q) undef)[q]? = cs[of + q]? := fun q hq => by
            have := hbound q hq
            simp [hq, this]
          refine ⟨(List.range ((els xs).length * te.ks.length)).map fun q => cs.getD (of + q) undef, b, cs, of, G, ?_, by simp, hnl', n6, n7, n8, fun q hq e => f2 q hq (by rw [e]; exact n2)⟩
          refine run_firstCells_some (P := P) w.drew _ _ ⟨b, of, none⟩ _ _ _ (by simp) fun j v hj => ?_
          have hjl : j < (els xs).length * te.ks.length := by
            rcases Nat.lt_or_ge j ((els xs).length * te.ks.length) with hh | hh
            · exact hh
            · rw [List.getElem?_eq_none (by simpa using hh)] at hj; simp at hj
          rw [hnl' j hjl] at hj
          rw [add_mk]
          have n3' : w.drew.heap[b]? = some (.cells cs el fr) := n3
          simp only [World.cell?, n3']
          exact hj
      obtain ⟨olds, b0, cs, of, G, r1, r2, r3, r4, r5, r6, r7⟩ := olds
      obtain ⟨zs, z1, z2⟩ := append_grows (ty := o.type) (vx := a.eval y) hu hTe hu2 hd2 hat hat2 m2.len r1 (m2.cells w.drew rfl) hgrow hby hbytes
      have hheap : (w.drew.alloc (.cells (olds.toArray ++ news.toArray ++ zs) ti.elem (0, 0))).heap = w.heap.push (.cells (olds.toArray ++ news.toArray ++ zs) ti.elem (0, 0)) := rfl
      have hsize : (w.drew.alloc (.cells (olds.toArray ++ news.toArray ++ zs) ti.elem (0, 0))).heap.size = w.heap.size + 1 := by rw [hheap, Array.size_push]
      have hold : ∀ q, q < w.heap.size → (w.drew.alloc (.cells (olds.toArray ++ news.toArray ++ zs) ti.elem (0, 0))).heap[q]? = w.heap[q]? := fun q hq => by rw [hheap, Array.getElem?_push, if_neg (by omega)]
      refine fin (.slice (some ⟨w.heap.size, 0, none⟩) ((els xs).length + ys.length) (grownCap w ((els xs).length + ys.length) cap ti.elem)) (w.drew.alloc (.cells (olds.toArray ++ news.toArray ++ zs) ti.elem (0, 0))) (fun q => (F q ∨ FH q) ∨ q = w.heap.size) (by rw [ev]; exact z2) (m1.wr f1 rfl rfl rfl (by rw [hsize]; omega) fun q hq _ => hold q hq) (fun b hb => ?_) ?_
      · rcases hb with hb | rfl
        · exact hFs _ (by rw [hsize]; omega) b hb
        · refine ⟨by rw [hsize]; omega, .inr m1.size, fun hz => by have := (m1.zone _ hz).1; omega, fun r j hh => by have := (m1.fp r j _ hh).1; omega, fun r' R' hR' hb' he => ?_⟩
          obtain ⟨_, _, _, _, cs1, el1, fr1, b5, _⟩ := m1.box r' R' hR' hb'
          rw [he, Array.getElem?_eq_none (Nat.le_refl _)] at b5
          simp at b5
      · refine own_cat (w := w) (b0 := b0) (F := F) r4 r5 r6 m2.rows (fun q hq => ⟨f2 q hq, r7 q hq⟩) (el := ti.elem) (fr := (0, 0)) (cs' := olds.toArray ++ news.toArray ++ zs) (by rw [hheap, Array.getElem?_push, if_pos rfl]) (by simp) (.inr rfl) (fun q hq _ => .inl (.inl hq)) (fun q hq => .inl (.inr hq)) (fun i j q hq => hnot q (.inl (r4 i j q hq).1)) (fun q hq => hnot q (.inr hq)) (fun q hq _ _ => hold q hq) (fun q hq => ?_) (fun q hq => ?_) hge ?_ hbig
        · rw [← r3 q hq, Nat.zero_add, Array.append_assoc, Array.getElem?_append_left (by simp; omega)]
          simp
        · rw [Nat.zero_add, Array.append_assoc, Array.getElem?_append_right (by simp; omega), Array.getElem?_append_left (by simp; omega)]
          simp only [List.size_toArray, r2, Nat.add_sub_cancel_left, List.getElem?_toArray]
        · have e1 : (olds.toArray ++ news.toArray ++ zs).size = olds.length + news.length + zs.size := by simp
          rw [e1, r2, hnl, z1, Nat.zero_add, ← Nat.add_mul, ← Nat.add_mul]
          exact Nat.mul_le_mul_right _ (by omega)
end
end Go.Av
namespace Go.Av
open Go.RowKit (Below)
section
variable {P : Program} {w : World} {E : En} {P : Program} {cx : Cx P} {Z : Nat → Prop} {g : Gh} {st : St} {a : Act}
theorem zeroCells_get {z : Array Value} {ks : List K} (hz : z.toList = ks.map zV) (n j : Nat) (hj : j < n * ks.length) : (Builtin.zeroCells z n)[j]? = (ks.map zV)[j % ks.length]? := by
  have hl : z.size = ks.length := by rw [← Array.length_toList, hz]; simp
  have hpos : 0 < ks.length := by
    rcases Nat.eq_zero_or_pos ks.length with h | h
    · rw [h] at hj; simp at hj
    · exact h
  unfold Builtin.zeroCells
  simp only [Array.getElem?_map, hl]
  have : (Array.range (n * ks.length))[j]? = some j := by simp [hj]
  rw [this]
  have hm : j % ks.length < ks.length := Nat.mod_lt _ hpos
  simp only [Option.map_some]
  rw [← hz, Array.getElem?_toList]
  rw [Array.getElem!_eq_getD]
  simp [Array.getD_eq_getD_getElem?, hl, hm]
theorem appendZ_nil {t t2 ty : TypeId} {e : TypeId} {te : TI} (ht : P.underlying t = some (.slice e)) (hTe : TIok P e te) {k2 : IntKind} (h2 : P.underlying t2 = some (.int k2)) {ats : Array TypeId} (hat : ats[0]? = some t) (hat2 : ats[1]? = some t2) {k : IntKind} :
    (Builtin.append_ ats ty #[.slice none 0 0, .int k 0]).run P w = .ok (.slice none 0 0) w := by
  obtain ⟨i, e1, e2, e3, z, e4, e5⟩ := hTe.info
  have hw : IntKind.i64.wrap 0 = 0 := by decide
  have ha : ∀ w, (asInt (.int k 0)).run P w = .ok 0 w := fun w => by simp [asInt, asIntOf]
  simp [Builtin.append_, hat, hat2, run_underlying ht, run_underlying h2, sizeOf, typeInfo, zeroValue, e1, e4, ha, hw]
theorem appendZ_grows {t t2 ty : TypeId} {e : TypeId} {te : TI} (ht : P.underlying t = some (.slice e)) (hTe : TIok P e te) {k2 : IntKind} (h2 : P.underlying t2 = some (.int k2)) {ats : Array TypeId} (hat : ats[0]? = some t) (hat2 : ats[1]? = some t2) {k : IntKind} {n : Nat} (hn : 0 < n) (hby : 0 < te.bytes) (hb : n * te.bytes ≤ big) :
    ∃ zs : Array Value, zs.size = (grownCap w n 0 e) * te.ks.length ∧ (∀ j, j < n * te.ks.length → zs[j]? = (te.ks.map zV)[j % te.ks.length]?) ∧ (Builtin.append_ ats ty #[.slice none 0 0, .int k (n : Int)]).run P w = .ok (.slice (some ⟨w.heap.size, 0, none⟩) n (grownCap w n 0 e)) (w.drew.alloc (.cells zs e (0, 0))) := by
  obtain ⟨i, e1, e2, e3, z, e4, e5⟩ := hTe.info
  have hzs : z.cells.size = te.ks.length := by rw [← Array.length_toList, e5]; simp
  have hge := grownCap_ge w n 0 e
  have hbb : n * te.bytes ≤ 140737488355328 := hb
  have hle : n ≤ n * te.bytes := Nat.le_mul_of_pos_right _ hby
  have h63 : ¬ (9223372036854775807 < (n : Int)) := by omega
  have h48 : ¬ (281474976710656 < Builtin.nextslicecap n 0 * i.bytes) := by
    have := growslice_fits (need := n) (old := 0) (bytes := i.bytes) hn (by rw [e3]; exact hbb)
    omega
  have hmin : IntKind.i64.min = -9223372036854775808 := by decide
  have hmax : IntKind.i64.max = 9223372036854775807 := by decide
  have hw : IntKind.i64.wrap (n : Int) = n := wrap_in ⟨by rw [hmin]; omega, by rw [hmax]; omega⟩
  have h48' : ¬ (281474976710656 < (n : Int) * (i.bytes : Int)) := by
    rw [e3]
    have : ((n * te.bytes : Nat) : Int) ≤ ((140737488355328 : Nat) : Int) := Int.ofNat_le.2 hbb
    rw [Int.natCast_mul] at this
    omega
  have hneg : ¬ ((n : Int) < 0) := by omega
  have hn0 : ¬ (n = 0) := by omega
  have ha : ∀ w, (asInt (.int k (n : Int))).run P w = .ok (n : Int) w := fun w => by simp [asInt, asIntOf]
  have hfo : ∀ w, (Builtin.firstCells i.size 0 (.slice none 0 0)).run P w = .ok #[] w := fun w => by simp [Builtin.firstCells]
  refine ⟨(if n * i.size = 0 then #[] else Builtin.zeroCells z.cells n) ++ Builtin.zeroCells z.cells (grownCap w n 0 e - n), ?_, ?_, ?_⟩
  · rw [Array.size_append, size_zeroCells, hzs, e2]
    split
    · rename_i h0
      rcases Nat.mul_eq_zero.1 h0 with h | h
      · omega
      · rw [h]; simp
    · rw [size_zeroCells, hzs, ← Nat.add_mul]
      congr 1
      omega
  · intro j hj
    have hne : ¬ (n * i.size = 0) := by rw [e2]; omega
    rw [if_neg hne, Array.getElem?_append_left (by rw [size_zeroCells, hzs]; exact hj)]
    exact zeroCells_get e5 n j hj
  · simp only [Builtin.append_, hat, hat2, List.getElem?_toArray, List.getElem?_cons_zero, List.getElem?_cons_succ, Sem.run_bind, run_underlying ht, Result.andThen_ok, run_sizeOf' hTe, run_underlying h2, Sem.run_pure, if_true, ha, hw, hneg, if_false, typeInfo]
    simp [e1, h48', hw, hneg, hn0, h63, h48, Question.forced, hfo, newRow, grownCap, zeroValue, e4, ha, sizeOf, typeInfo]
    have hfo' : ∀ w, (Builtin.firstCells te.ks.length 0 (.slice none 0 0)).run P w = .ok #[] w := fun w => by simp [Builtin.firstCells]
    rw [hfo', ← e2]
    simp only [Result.andThen_ok, Array.empty_append]
    by_cases h0 : n * i.size = 0
    · rw [if_pos h0, if_pos h0]; simp
    · rw [if_neg h0, if_neg h0]; rfl
theorem w_appendZ (hT : TTok P E) (h : Rel cx Z g st a w) (hn : NoMay st) (hsz : Fit cx E a) {o : Oper} {d : Nat} (hd : o.dst = some d) (hdn : Dst cx a d) {c : Call} (ho : o.op = .call c) (hcal : c.callee = .builtin .append) {x y : Operand} (hargs : c.args.toList = [x, y]) {t t2 : Nat} {ts : List Nat} (hts : c.argTypes.toList = t :: t2 :: ts)
    {ti te : TI} (hti : E.ti t = some ti) (hte : E.sl t = some te) {tx ty : TV} (hx : st.get x = some tx) (hy : st.get y = some ty) (h2 : E.i64 t2 = true) (hnil : isNilTV tx = true) {k : IntKind} {n : Int} (hint : ty.int? = some (k, n)) {st' : St} (hrun : (st.appendZ d ti.elem te n).run = some st') : WStep P cx E st' a w o := by
  have hc := hn.cons.cons
  obtain ⟨ks0, q1, q2, q3, q4⟩ := sl_ti hT hte hti
  have hTe := hT _ _ q4
  obtain ⟨tt, ks1, t1, _, _, _, hu⟩ := sl_desc hT hte
  rw [hti] at t1
  simp only [Option.some.injEq] at t1
  subst t1
  have hu2 : ∃ k2, P.underlying t2 = some (.int k2) := by
    unfold En.i64 at h2
    split at h2
    · rename_i e0 by0 fl0 hti2
      obtain ⟨dd, u1, u2⟩ := (hT t2 _ hti2).desc
      cases dd <;> simp [descOk] at u2
      exact ⟨_, u1⟩
    · simp at h2
  obtain ⟨k2, hu2⟩ := hu2
  unfold St.appendZ at hrun
  cases hcond : st.free d && Nat.blt 0 te.bytes with
  | false => rw [hcond] at hrun; simp [Tr.run] at hrun
  | true =>
    rw [hcond] at hrun
    simp only [cond_true] at hrun
    simp only [Bool.and_eq_true] at hcond
    obtain ⟨hfree, hby⟩ := hcond
    have hby : 0 < te.bytes := Nat.lt_of_succ_le (Nat.le_of_ble_eq_true hby)
    obtain ⟨hble, hrun⟩ := Tr.run_need hrun
    simp only [Tr.run, Option.some.injEq] at hrun
    subst hrun
    simp only [Bool.and_eq_true, leI, decide_eq_true_eq] at hble
    obtain ⟨n0, n1⟩ := hble
    obtain ⟨m, rfl⟩ := Int.eq_ofNat_of_zero_le n0
    have hmb : m * te.bytes ≤ big := by
      have : ((m * te.bytes : Nat) : Int) ≤ (big : Int) := by rw [Int.natCast_mul]; exact n1
      exact_mod_cast this
    have hnm : NoMay (st.bindT d (.v (.ref d 0 0), some ⟨false, [⟨0, 0, .own (.sl ti.elem te.ks) (List.replicate (m : Int).toNat (dfls te.ks))⟩]⟩)) := fun t tv ht => by
      rw [bindT_tm] at ht
      split at ht
      · simp only [Option.some.injEq] at ht; subst ht; exact fun h => h
      · exact hn t tv ht
    refine ⟨hnm, fun next Q hk => ?_⟩
    have ex : a.eval x = .slice none 0 0 := isNil_rel (get_rel h hc hx) hnil
    have ey : a.eval y = .int k (m : Int) := (int?_rel (get_rel h hc hy) hint).1
    have hat : c.argTypes[0]? = some t := by rw [← Array.getElem?_toList, hts]; rfl
    have hat2 : c.argTypes[1]? = some t2 := by rw [← Array.getElem?_toList, hts]; rfl
    have hargs' : c.args = #[x, y] := by rw [← Array.toArray_toList (xs := c.args), hargs]
    have fin : ∀ (v' : Value) (w' : World) (F' : Nat → Prop), (Builtin.append_ c.argTypes o.type #[a.eval x, a.eval y]).run P w = .ok v' w' → Rel cx Z g st a w' → (∀ b, F' b → b < w'.heap.size ∧ (cx.F0 b ∨ cx.w0.heap.size ≤ b) ∧ ¬ Z b ∧ (∀ r j, ¬ g.fp r j b) ∧ (∀ r' R', look st.rt r' = some R' → R'.box = true → g.be r' ≠ b)) →
        Own w' (.sl ti.elem te.ks) (List.replicate (m : Int).toNat (dfls te.ks)) v' F' → o.wp P a w next Q := by
      intro v' w' F' hr hrel hF' hown
      have : (execOp a.eval o).run P w = .ok (.value v') w' := by
        simp only [execOp, ho, resolve, hcal, hargs', Sem.run_bind, Sem.run_pure, Result.andThen_ok, invoke, builtin, List.map_toArray, List.map_cons, List.map_nil, hr]
      unfold Oper.wp
      rw [this, Oper.upon_value, hd]
      obtain ⟨g3, hg⟩ := hrel.bindOwn hdn hfree hF' hown
      exact hk Z g3 _ _ hg (hsz.put _ _)
    rcases Nat.eq_zero_or_pos m with hm | hm
    · subst hm
      refine fin (.slice none 0 0) w (fun _ => False) (by rw [ex, ey]; exact appendZ_nil hu hTe hu2 hat hat2) h (fun b hb => hb.elim) ?_
      exact Own_nil _ _
    · obtain ⟨zs, z1, z2, z3⟩ := appendZ_grows (P := P) (w := w) (ty := o.type) hu hTe hu2 hat hat2 (k := k) hm hby hmb
      have hge := grownCap_ge w m 0 ti.elem
      have hheap : (w.drew.alloc (.cells zs ti.elem (0, 0))).heap = w.heap.push (.cells zs ti.elem (0, 0)) := rfl
      have hsize : (w.drew.alloc (.cells zs ti.elem (0, 0))).heap.size = w.heap.size + 1 := by rw [hheap, Array.size_push]
      have hold : ∀ q, q < w.heap.size → (w.drew.alloc (.cells zs ti.elem (0, 0))).heap[q]? = w.heap[q]? := fun q hq => by rw [hheap, Array.getElem?_push, if_neg (by omega)]
      have hrel : Rel cx Z g st a (w.drew.alloc (.cells zs ti.elem (0, 0))) := h.wr (Free.none _ _ _ _ _) rfl rfl rfl (by rw [hsize]; omega) fun q hq _ => hold q hq
      refine fin _ _ (fun q => q = w.heap.size) (by rw [ex, ey]; exact z3) hrel (fun b hb => ?_) ?_
      · subst hb
        refine ⟨by rw [hsize]; omega, .inr h.size, fun hz => by have := (h.zone _ hz).1; omega, fun r j hh => by have := (h.fp r j _ hh).1; omega, fun r' R' hR' hb' he => ?_⟩
        obtain ⟨_, _, _, _, cs1, el1, fr1, b5, _⟩ := h.box r' R' hR' hb'
        rw [he, Array.getElem?_eq_none (Nat.le_refl _)] at b5
        simp at b5
      · have hlen : (els (e := ti.elem) (ks := te.ks) (List.replicate (m : Int).toNat (dfls te.ks))).length = m := by simp [els]
        have hbig : m ≤ big := Nat.le_trans (Nat.le_mul_of_pos_right _ hby) hmb
        refine ⟨_, _, by rw [hlen], by rw [hlen]; omega, by rw [hlen]; exact hbig, fun h => by simp at h, fun a' ha' => ?_⟩
        simp only [Option.some.injEq] at ha'
        subst ha'
        refine ⟨_, _, zs, ti.elem, (0, 0), rfl, rfl, by rw [hheap, Array.getElem?_push, if_pos rfl], fun q _ hh => by simp at hh, by rw [z1]; omega, fun _ _ _ => False, fun _ _ _ h => h.elim, fun _ _ _ _ _ h => h.elim, fun i y hi => ?_⟩
        have hil : i < m := by
          rcases Nat.lt_or_ge i m with hh | hh
          · exact hh
          · rw [List.getElem?_eq_none (by rw [hlen]; exact hh)] at hi; simp at hi
        have hy : y = dfls te.ks := by
          have : (List.replicate (m : Int).toNat (dfls te.ks))[i]? = some y := hi
          rw [List.getElem?_replicate] at this
          split at this
          · simp only [Option.some.injEq] at this; exact this.symm
          · simp at this
        subst hy
        refine ownl_zero te.ks 0 zs _ fun c v hc => ?_
        have hcl : c < te.ks.length := by
          rcases Nat.lt_or_ge c te.ks.length with hh | hh
          · exact hh
          · rw [List.getElem?_eq_none (by simpa using hh)] at hc; simp at hc
        have hidx : i * te.ks.length + c < m * te.ks.length := by
          have : (i + 1) * te.ks.length ≤ m * te.ks.length := Nat.mul_le_mul_right _ (by omega)
          rw [Nat.add_mul] at this
          omega
        rw [Nat.zero_add, z2 _ hidx, Nat.mul_comm, Nat.mul_add_mod, Nat.mod_eq_of_lt hcl]
        exact hc
end
end Go.Av
namespace Go.Av
open Go.RowKit (Below)
abbrev Lent := Nat → Nat → Option (RC × (Nat → Prop))
def Gh.lend (g : Gh) (L : Lent) : Gh := ⟨g.be, g.cv, fun r j b => match L r j with | some p => p.2 b | none => g.fp r j b⟩
structure LentTo (st st' : St) (L : Lent) : Prop where
  tm : st'.tm = st.tm
  shape : ∀ r, shape st' r = shape st r
  cell : ∀ r j, st'.cell r j = match L r j with | some p => (st.cell r j).map (fun _ => p.1) | none => st.cell r j
  rt : ∀ r, (∀ j, L r j = none) → look st'.rt r = look st.rt r
section
variable {P : Program} {cx : Cx P} {Z : Nat → Prop} {g : Gh} {st st' : St} {a : Act} {w w' : World} {E : En} {L : Lent}
theorem shape_ex {st st' : St} {r : Nat} {R' : Rt} (hs : shape st' r = shape st r) (h : look st'.rt r = some R') : ∃ R, look st.rt r = some R ∧ R'.box = R.box ∧ R'.cells.length = R.cells.length := by
  have h1 : shape st r = some (R'.box, R'.cells.length) := by rw [← hs]; simp [shape, h]
  obtain ⟨R, k1, k2, k3⟩ := shape_look h1
  exact ⟨R, k1, k2.symm, k3.symm⟩
theorem Rel.lend (h : Rel cx Z g st a w) (hl : LentTo st st' L) (h1 : w'.os = w.os) (h2 : w'.tape = w.tape) (h3 : w'.output = w.output) (hsz : w.heap.size ≤ w'.heap.size)
    (hL : ∀ r j p, L r j = some p → ∃ c, st.cell r j = some c ∧ p.1.s = c.s ∧ c.m < p.1.m ∧ ∃ e ks xs xs', c.v = .own (.sl e ks) xs ∧ p.1.v = .own (.sl e ks) xs' ∧ (els xs').length = (els xs).length ∧ Own w' (.sl e ks) xs' (g.cv r j) p.2)
    (hF : ∀ r j p, L r j = some p → ∀ b, p.2 b → b < w'.heap.size ∧ ((∃ r0 j0 p0, L r0 j0 = some p0 ∧ g.fp r0 j0 b) ∨ w.heap.size ≤ b) ∧ ¬ Z b)
    (hd : ∀ r j p r' j' p' b, L r j = some p → L r' j' = some p' → p.2 b → p'.2 b → r = r' ∧ j = j')
    (hblk : ∀ b, b < w.heap.size → (∀ r j p, L r j = some p → ¬ g.fp r j b) → w'.heap[b]? = w.heap[b]?) :
    Rel cx Z (g.lend L) st' a w' ∧ Moved Z w w' g (g.lend L) st st' := by
  have hfpo : ∀ r j b, L r j = none → g.fp r j b → w'.heap[b]? = w.heap[b]? := fun r j b hn hb => hblk b (h.fp r j b hb).1 fun r0 j0 p0 hp0 hh => by
    obtain ⟨e1, e2⟩ := h.disj _ _ _ _ _ hb hh
    subst e1; subst e2
    rw [hn] at hp0; simp at hp0
  have hz : ∀ b, Z b → b < w.heap.size → w'.heap[b]? = w.heap[b]? := fun b hb hlt => hblk b hlt fun r j p hp hh => (h.fp r j b hh).2.2.1 hb
  have hfpi : ∀ r j b, (g.lend L).fp r j b → (∃ p, L r j = some p ∧ p.2 b) ∨ (L r j = none ∧ g.fp r j b) := fun r j b hb => by
    simp only [Gh.lend] at hb
    cases hp : L r j with
    | none => rw [hp] at hb; exact .inr ⟨rfl, hb⟩
    | some p => rw [hp] at hb; exact .inl ⟨p, rfl, hb⟩
  have k : Keep Z Z w w' g (g.lend L) st st' := by
    refine { size := hsz, z := fun b hb hlt => ⟨hb, hz b hb hlt⟩, root := fun r R hR => ?_, cell := fun r j c hc => ?_, own := fun r j b hb => (h.fp r j b hb).1, block := (keep_same h (st' := st) (w' := w) rfl rfl).block }
    · obtain ⟨R', e1, e2, _⟩ := shape_ex (st := st') (st' := st) (hl.shape r).symm hR
      exact ⟨R', e1, e2.symm, fun _ => rfl⟩
    · rw [hl.cell]
      cases hp : L r j with
      | none => exact ⟨c, hc, Nat.le_refl _, Nat.le_refl _, fun _ => rfl, fun _ e ks xs hh => ⟨xs, hh, rfl⟩, fun _ _ => ⟨rfl, fun b hb _ => ⟨by simp only [Gh.lend, hp]; exact hb, hfpo r j b hp hb⟩⟩⟩
      | some p =>
        obtain ⟨c0, f1, f2, f3, e, ks, xs, xs', f4, f5, f6, f7⟩ := hL r j p hp
        rw [hc] at f1
        simp only [Option.some.injEq] at f1
        subst f1
        rw [hc]
        refine ⟨p.1, rfl, by omega, by omega, fun _ => rfl, fun _ e' ks' xs0 hh => ?_, fun _ e => absurd e (by omega)⟩
        rw [f4] at hh
        simp only [RV.own.injEq, K.sl.injEq] at hh
        obtain ⟨⟨rfl, rfl⟩, hh⟩ := hh
        have hh := eq_of_heq hh
        subst hh
        exact ⟨xs', f5, f6⟩
  have hbn : ∀ r R, look st.rt r = some R → R.box = true → ∀ r' j', ¬ (g.lend L).fp r' j' (g.be r) := fun r R hR hb r' j' hh => by
    obtain ⟨_, _, b3, _, cs, el, fr, b5, _⟩ := h.box r R hR hb
    have hlt : g.be r < w.heap.size := by
      rcases Nat.lt_or_ge (g.be r) w.heap.size with hh | hh
      · exact hh
      · simp [Array.getElem?_eq_none hh] at b5
    rcases hfpi _ _ _ hh with ⟨p, hp, hh⟩ | ⟨_, hh⟩
    · rcases (hF _ _ _ hp _ hh).2.1 with ⟨r0, j0, p0, _, k2⟩ | k2
      · exact b3 r0 j0 k2
      · omega
    · exact b3 _ _ hh
  refine ⟨?_, ⟨k, hl.tm, rfl, fun r R' hR => by obtain ⟨R, e1, e2, _⟩ := shape_ex (hl.shape r) hR; exact ⟨R, e1, e2⟩⟩⟩
  refine { os := h1.trans h.os, tape := h2.trans h.tape, output := h3.trans h.output, size := Nat.le_trans h.size hsz, block := ?_, zone := fun b hb => ⟨Nat.lt_of_lt_of_le (h.zone b hb).1 hsz, (h.zone b hb).2⟩, z0 := h.z0, fp := ?_, disj := ?_, box := ?_, cell := ?_, tm := ?_, defers := h.defers, pin := h.pin }
  · intro b hb hf
    refine (hblk b (Nat.lt_of_lt_of_le hb h.size) fun r j p hp hh => ?_).trans (h.block b hb hf)
    rcases (h.fp r j b hh).2.1 with h4 | h4
    · exact hf h4
    · omega
  · intro r j b hb
    rcases hfpi r j b hb with ⟨p, hp, hb⟩ | ⟨hp, hb⟩
    · obtain ⟨k1, k2, k3⟩ := hF r j p hp b hb
      obtain ⟨c, f1, _, _, e, ks, xs, xs', _, f5, _⟩ := hL r j p hp
      refine ⟨k1, ?_, k3, p.1, _, xs', by rw [hl.cell, hp, f1]; rfl, f5⟩
      rcases k2 with ⟨r0, j0, p0, _, k2⟩ | k2
      · exact (h.fp _ _ _ k2).2.1
      · exact .inr (Nat.le_trans h.size k2)
    · obtain ⟨k1, k2, k3, c, kk, x, k4, k5⟩ := h.fp r j b hb
      exact ⟨Nat.lt_of_lt_of_le k1 hsz, k2, k3, c, kk, x, by rw [hl.cell, hp]; exact k4, k5⟩
  · intro r1 j1 r2 j2 b hb1 hb2
    rcases hfpi _ _ _ hb1 with ⟨p1, hp1, k1⟩ | ⟨hp1, k1⟩
    · rcases hfpi _ _ _ hb2 with ⟨p2, hp2, k2⟩ | ⟨hp2, k2⟩
      · exact hd _ _ _ _ _ _ b hp1 hp2 k1 k2
      · exfalso
        rcases (hF _ _ _ hp1 b k1).2.1 with ⟨r0, j0, p0, hp0, hh⟩ | hh
        · obtain ⟨e1, e2⟩ := h.disj _ _ _ _ _ hh k2
          subst e1; subst e2
          rw [hp2] at hp0; simp at hp0
        · have := (h.fp _ _ _ k2).1; omega
    · rcases hfpi _ _ _ hb2 with ⟨p2, hp2, k2⟩ | ⟨hp2, k2⟩
      · exfalso
        rcases (hF _ _ _ hp2 b k2).2.1 with ⟨r0, j0, p0, hp0, hh⟩ | hh
        · obtain ⟨e1, e2⟩ := h.disj _ _ _ _ _ hh k1
          subst e1; subst e2
          rw [hp1] at hp0; simp at hp0
        · have := (h.fp _ _ _ k1).1; omega
      · exact h.disj _ _ _ _ _ k1 k2
  · intro r R' hR hbx
    obtain ⟨R, e1, e2, e3⟩ := shape_ex (hl.shape r) hR
    have hbx' : R.box = true := by rw [← e2]; exact hbx
    obtain ⟨b1, b2, b3, b4, cs, el, fr, b5, b6, b7, b8⟩ := h.box r R e1 hbx'
    have hlt : g.be r < w.heap.size := by
      rcases Nat.lt_or_ge (g.be r) w.heap.size with hh | hh
      · exact hh
      · simp [Array.getElem?_eq_none hh] at b5
    refine ⟨b1, b2, hbn r R e1 hbx', fun r' R'' hR'' hb'' he => ?_, cs, el, fr, ?_, b6, by rw [b7, e3], b8⟩
    · obtain ⟨R2, f1, f2, _⟩ := shape_ex (hl.shape r') hR''
      exact b4 r' R2 f1 (by rw [← f2]; exact hb'') he
    · show w'.heap[g.be r]? = _
      rw [hblk _ hlt fun r0 j0 p0 _ hh => b3 r0 j0 hh]
      exact b5
  · intro r j c hc
    rw [hl.cell] at hc
    cases hp : L r j with
    | none =>
      rw [hp] at hc
      have e2 : (g.lend L).fp r j = g.fp r j := by funext b; simp only [Gh.lend, hp]
      rw [e2]
      exact RelRV.keep k _ _ _ _ (h.cell r j c hc) (fun _ h => h) (fun b hb _ => hfpo r j b hp hb)
    | some p =>
      rw [hp] at hc
      obtain ⟨c0, f1, _, _, e, ks, xs, xs', _, f5, _, f7⟩ := hL r j p hp
      rw [f1] at hc
      simp only [Option.map_some, Option.some.injEq] at hc
      subst hc
      have e2 : (g.lend L).fp r j = p.2 := by funext b; simp only [Gh.lend, hp]
      rw [e2, f5]
      exact f7
  · intro t tv ht
    rw [hl.tm] at ht
    exact ⟨(h.tm t tv ht).1, RelTV.keep k _ _ (h.tm t tv ht).2⟩
end
end Go.Av
namespace Go.Av
open Go.RowKit (Below)
section
variable {w w' : World}
theorem Ownl_cell : ∀ (ks : List K) (x : Tl ks) (j : Nat) (G : Nat → Nat → Prop) (cs : Array Value) (o c : Nat) (k : K) (y : T k), Ownl w ks x j G cs o → cellAt ks x c = some ⟨k, y⟩ → ∃ v, cs[o + c]? = some v ∧ Own w k y v (G (j + c))
  | [], _, _, _, _, _, _, _, _, _, h => by simp [cellAt] at h
  | k0 :: ks, x, j, G, cs, o, 0, k, y, ⟨⟨v, h1, h2⟩, _⟩, h => by
    simp only [cellAt, Option.some.injEq, Sigma.mk.injEq] at h
    obtain ⟨rfl, h⟩ := h
    have h := eq_of_heq h
    subst h
    exact ⟨v, h1, h2⟩
  | k0 :: ks, x, j, G, cs, o, c + 1, k, y, ⟨_, h3⟩, h => by
    obtain ⟨v, h1, h2⟩ := Ownl_cell ks x.2 (j + 1) G cs (o + 1) c k y h3 h
    exact ⟨v, by rw [show o + (c + 1) = o + 1 + c by omega]; exact h1, by rw [show j + (c + 1) = j + 1 + c by omega]; exact h2⟩
theorem own_hole {e : TypeId} {ks : List K} {xs : T (.sl e ks)} {b o l cap : Nat} {F : Nat → Prop} (h : Own w (.sl e ks) xs (.slice (some ⟨b, o, none⟩) l cap) F) {i c : Nat} (hi : i < (els xs).length) {k : K} {y : T k} (hc : cellAt ks (elAt xs i) c = some ⟨k, y⟩) :
    ∃ v Fi, w.cell? ⟨b, o + i * ks.length + c, none⟩ = some v ∧ Own w k y v Fi ∧ (∀ q, Fi q → F q ∧ q ≠ b) ∧ F b ∧
      ∀ (w' : World) (y' : T k) (z : Tl ks) (F' : Nat → Prop), setAt ks (elAt xs i) c k y' = some z → Own w' k y' v F' → (∀ q, F' q → F q → Fi q) → (∀ q, q < w.heap.size → F q → ¬ Fi q → w'.heap[q]? = w.heap[q]?) → (∀ q, F q → q < w.heap.size) →
        Own w' (.sl e ks) (List.set (els xs) i z) (.slice (some ⟨b, o, none⟩) l cap) (fun q => (F q ∧ ¬ Fi q) ∨ F' q) := by
  obtain ⟨a', c0, h1, h2, h3, h4, h5⟩ := h
  simp only [Value.slice.injEq] at h1
  obtain ⟨rfl, rfl, rfl⟩ := h1
  obtain ⟨b', o', cs, el, fr, g1, g2, g3, g4, g5, G, g6, g7, g8⟩ := h5 _ rfl
  simp only [Addr.mk.injEq, and_true] at g1
  obtain ⟨rfl, rfl⟩ := g1
  obtain ⟨v, hv1, hv2⟩ := Ownl_cell ks _ 0 (G i) cs _ c k y (g8 i _ (elAt_get xs hi)) hc
  rw [Nat.zero_add] at hv2
  refine ⟨v, G i c, ?_, hv2, fun q hq => g6 i c q hq, g2, fun w' y' z F' hz ho hF' hw hlt => ?_⟩
  · simp only [World.cell?, g3, Option.isSome_none, Bool.false_eq_true, if_false]
    exact hv1
  · have hlen : (els (e := e) (ks := ks) (List.set (els xs) i z)).length = (els xs).length := List.length_set ..
    have hbG : ¬ G i c b := fun hh => (g6 i c b hh).2 rfl
    have hcl := setAt_lt _ _ _ _ _ _ hz
    have hblt := hlt b g2
    refine ⟨_, cap, by rw [hlen], by rw [hlen]; exact h2, by rw [hlen]; exact h3, h4, fun a'' ha'' => ?_⟩
    simp only [Option.some.injEq] at ha''
    subst ha''
    refine ⟨b, o, cs, el, fr, rfl, .inl ⟨g2, hbG⟩, by rw [hw b hblt g2 hbG]; exact g3, g4, g5, fun i' j' q => if i' = i ∧ j' = c then F' q else G i' j' q, fun i' j' q hq => ?_, fun i1 j1 i2 j2 q hq1 hq2 => ?_, fun i' x hx => ?_⟩
    · dsimp only at hq
      split at hq
      · refine ⟨.inr hq, fun e => ?_⟩
        subst e
        exact hbG (hF' q hq g2)
      · rename_i hne
        refine ⟨.inl ⟨(g6 i' j' q hq).1, fun hh => hne ?_⟩, (g6 i' j' q hq).2⟩
        exact g7 i' j' i c q hq hh
    · dsimp only at hq1 hq2
      have cross : ∀ i1 j1, ¬ (i1 = i ∧ j1 = c) → G i1 j1 q → F' q → False := fun i1 j1 hne hG hF => by
        exact hne (g7 i1 j1 i c q hG (hF' q hF (g6 i1 j1 q hG).1))
      by_cases e1 : i1 = i ∧ j1 = c
      · rw [if_pos e1] at hq1
        by_cases e2 : i2 = i ∧ j2 = c
        · exact ⟨e1.1.trans e2.1.symm, e1.2.trans e2.2.symm⟩
        · rw [if_neg e2] at hq2; exact (cross i2 j2 e2 hq2 hq1).elim
      · rw [if_neg e1] at hq1
        by_cases e2 : i2 = i ∧ j2 = c
        · rw [if_pos e2] at hq2; exact (cross i1 j1 e1 hq1 hq2).elim
        · rw [if_neg e2] at hq2; exact g7 _ _ _ _ q hq1 hq2
    · have hx' : (List.set (els xs) i z)[i']? = some x := hx
      rw [List.getElem?_set] at hx'
      by_cases ei : i = i'
      · subst ei
        rw [if_pos rfl, if_pos hi] at hx'
        simp only [Option.some.injEq] at hx'
        subst hx'
        refine Ownl_set ks (elAt xs i) c k y' z 0 (G i) _ F' cs cs _ v hz ho hv1 (fun _ _ _ => rfl) (fun q p hne hp => ?_) (fun p hp => ?_) (fun q p hne hp _ => ?_) (g8 i _ (elAt_get xs hi))
        · show (if i = i ∧ q = c then F' p else G i q p)
          rw [if_neg (fun e => hne (by omega))]; exact hp
        · show (if i = i ∧ 0 + c = c then F' p else G i (0 + c) p)
          rw [if_pos ⟨rfl, by omega⟩]; exact hp
        · exact hw p (hlt p (g6 i q p hp).1) (g6 i q p hp).1 fun hh => hne (by have := (g7 i q i c p hp hh).2; omega)
      · rw [if_neg ei] at hx'
        refine Ownl.frame ks x 0 (G i') _ cs _ (fun j q hq => ?_) (fun j q hq _ => ?_) (g8 i' x hx')
        · show (if i' = i ∧ j = c then F' q else G i' j q)
          rw [if_neg (fun e => ei e.1.symm)]; exact hq
        · exact hw q (hlt q (g6 i' j q hq).1) (g6 i' j q hq).1 fun hh => ei (g7 i' j i c q hq hh).1.symm
end
end Go.Av
namespace Go.Av
open Go.RowKit (Below)
section
variable {P : Program} {cx : Cx P} {Z : Nat → Prop} {a : Act} {w : World} {E : En}
theorem ArgsR.mono {F F' : Nat → Nat → Prop} (hF : ∀ i b, F i b → F' i b) : ∀ (ps : List PK) (x : PT ps) (vs : List Value) (i : Nat), ArgsR Z w F ps x vs i → ArgsR Z w F' ps x vs i
  | [], _, [], _, _ => trivial
  | .c _ _ :: ps, x, v :: vs, i, h => ⟨h.1, ArgsR.mono hF ps x.2 vs _ h.2⟩
  | .pt _ :: ps, x, v :: vs, i, h => ⟨h.1, ArgsR.mono hF ps x.2 vs _ h.2⟩
  | .nil :: ps, x, v :: vs, i, h => ⟨h.1, ArgsR.mono hF ps x vs _ h.2⟩
  | .fn _ _ :: ps, x, v :: vs, i, h => ⟨h.1, ArgsR.mono hF ps x.2 vs _ h.2⟩
  | .io _ ks :: ps, x, v :: vs, i, ⟨⟨cs, e, h⟩, h'⟩ => ⟨⟨cs, e, ResCells.mono hF ks x.1 cs i h⟩, ArgsR.mono hF ps x.2 vs _ h'⟩
  | .mv _ :: ps, x, v :: vs, i, h => ⟨Own.frame _ _ _ _ _ (hF i) (fun _ _ _ => rfl) h.1, ArgsR.mono hF ps x.2 vs _ h.2⟩
  | [], _, _ :: _, _, h => h.elim
  | .c _ _ :: _, _, [], _, h => h.elim
  | .fn _ _ :: _, _, [], _, h => h.elim
  | .io _ _ :: _, _, [], _, h => h.elim
  | .pt _ :: _, _, [], _, h => h.elim
  | .nil :: _, _, [], _, h => h.elim
  | .mv _ :: _, _, [], _, h => h.elim
theorem ResCells.zone {Z' : Nat → Prop} {H : Nat → Nat → Prop} (hz : ∀ b, Z b → b < w.heap.size → Z' b) : ∀ (ks : List K) (x : Tl ks) (cs : List Value) (j : Nat), ResCells true Z w H ks x cs j → ResCells true Z' w H ks x cs j
  | [], _, [], _, _ => trivial
  | .sl e ks' :: ks, x, v :: vs, j, h => ⟨h.1, ResCells.zone hz ks x.2 vs _ h.2⟩
  | .int _ :: ks, x, v :: vs, j, h => ⟨h.1.zone hz, ResCells.zone hz ks x.2 vs j h.2⟩
  | .bool :: ks, x, v :: vs, j, h => ⟨h.1.zone hz, ResCells.zone hz ks x.2 vs j h.2⟩
  | .str :: ks, x, v :: vs, j, h => ⟨h.1.zone hz, ResCells.zone hz ks x.2 vs j h.2⟩
  | [], _, _ :: _, _, h => h.elim
  | .sl _ _ :: _, _, [], _, h => h.elim
  | .int _ :: _, _, [], _, h => h.elim
  | .bool :: _, _, [], _, h => h.elim
  | .str :: _, _, [], _, h => h.elim
def Zb (Z : Nat → Prop) (g : Gh) (st : St) : Nat → Prop := fun b => Z b ∨ ∃ r R, look st.rt r = some R ∧ R.box = true ∧ g.be r = b
theorem Zb_lt {g : Gh} {st : St} (h : Rel cx Z g st a w) : ∀ b, Zb Z g st b → b < w.heap.size := fun b hb => by
  rcases hb with hb | ⟨r, R, hR, hx, e⟩
  · exact (h.zone b hb).1
  · obtain ⟨_, _, _, _, cs, el, fr, b5, _⟩ := h.box r R hR hx
    rw [e] at b5
    rcases Nat.lt_or_ge b w.heap.size with hh | hh
    · exact hh
    · simp [Array.getElem?_eq_none hh] at b5
theorem Zb_fp {g : Gh} {st : St} (h : Rel cx Z g st a w) {r j b : Nat} (hb : g.fp r j b) : ¬ Zb Z g st b := fun hz => by
  rcases hz with hz | ⟨r', R, hR, hx, e⟩
  · exact (h.fp _ _ _ hb).2.2.1 hz
  · exact (h.box r' R hR hx).2.2.1 r j (e ▸ hb)
def BackOK (g : Gh) (st : St) (w w' : World) (r j : Nat) (c' : RC) (F F' : Nat → Prop) : Prop :=
  ∃ c e ks xs xs', st.cell r j = some c ∧ c'.s = c.s ∧ c.m < c'.m ∧ c.v = .own (.sl e ks) xs ∧ c'.v = .own (.sl e ks) xs' ∧ (els xs').length = (els xs).length ∧ Own w' (.sl e ks) xs' (g.cv r j) (fun q => (g.fp r j q ∧ ¬ F q) ∨ F' q)
structure LnOK (g : Gh) (st : St) (w : World) (n : Ln) (k : K) (F : Nat → Prop) (v : Value) : Prop where
  sub : ∀ b, F b → g.fp n.r n.j b
  back : ∀ (w' : World) (y' : T k) (F' : Nat → Prop) (c' : RC), st.backRC n ⟨k, y'⟩ = some c' → Own w' k y' v F' → (∀ q, F' q → g.fp n.r n.j q → F q) → (∀ q, q < w.heap.size → g.fp n.r n.j q → ¬ F q → w'.heap[q]? = w.heap[q]?) → BackOK g st w w' n.r n.j c' F F'
theorem own_len {w w' : World} {e : TypeId} {ks : List K} {xs xs' : T (.sl e ks)} {v : Value} {F F' : Nat → Prop} (h : Own w (.sl e ks) xs v F) (h' : Own w' (.sl e ks) xs' v F') : (els xs').length = (els xs).length := by
  obtain ⟨a, c, h1, _⟩ := h
  obtain ⟨a', c', h1', _⟩ := h'
  rw [h1] at h1'
  simp only [Value.slice.injEq] at h1'
  exact h1'.2.1.symm
theorem lend1_rel {g : Gh} {st : St} (h : Rel cx Z g st a w) {av : AV} {v : Value} {e0 : TypeId} {ks0 : List K} {n : Ln} {y : T (.sl e0 ks0)} (hr : RelAV Z g st w av v) (hl : st.lend1 (.sl e0 ks0) av = some (n, y)) :
    ∃ F, Own w (.sl e0 ks0) y v F ∧ LnOK g st w n (.sl e0 ks0) F v := by
  cases av with
  | ref r j s =>
    simp only [St.lend1] at hl
    split at hl
    · rename_i s' m k' x hc
      cases hb : Nat.beq s' s with
      | false => rw [hb] at hl; simp at hl
      | true =>
        rw [hb] at hl
        simp only [cond_true] at hl
        split at hl
        · rename_i y' hy
          cases hl
          obtain ⟨rfl, hy⟩ := castK_some hy
          have hy : x = y := hy
          subst hy
          have := beq_eq hb
          subst this
          obtain ⟨c, q1, q2, q3⟩ := hr
          rw [hc] at q1
          cases q1
          have q3 := q3 rfl
          subst q3
          have ho : Own w (.sl e0 ks0) x (g.cv r j) (g.fp r j) := h.cell r j _ hc
          refine ⟨g.fp r j, ho, fun b hb => hb, fun w' y' F' c' hbk ho' hF' hw' => ?_⟩
          simp only [St.backRC, hc, Option.some.injEq] at hbk
          subst hbk
          refine ⟨_, e0, ks0, x, y', hc, rfl, Nat.lt_succ_self _, rfl, rfl, own_len ho ho', ?_⟩
          exact Own.frame _ _ _ _ _ (fun b hb => .inr hb) (fun _ _ _ => rfl) ho'
        · simp at hl
    · simp at hl
  | pref r j s m i c =>
    simp only [St.lend1] at hl
    split at hl
    · rename_i s' m' e ks x hc
      cases hb : Nat.beq s' s && Nat.beq m' m with
      | false => rw [hb] at hl; simp at hl
      | true =>
        rw [hb] at hl
        simp only [cond_true] at hl
        simp only [Bool.and_eq_true] at hb
        split at hl
        · rename_i k' y1 hcell
          split at hl
          · rename_i y' hy
            cases hl
            obtain ⟨rfl, hy⟩ := castK_some hy
            have hy : y1 = y := hy
            subst hy
            have e1 := beq_eq hb.1
            have e2 := beq_eq hb.2
            subst e1; subst e2
            obtain ⟨c0, q1, q2, q3, q4⟩ := hr
            rw [hc] at q1
            cases q1
            obtain ⟨e', ks', xs', p1, p2, p3, b, o, l, cap, p4, p5⟩ := q4 rfl rfl
            simp only [RV.own.injEq, K.sl.injEq] at p1
            obtain ⟨⟨rfl, rfl⟩, p1⟩ := p1
            have p1 := eq_of_heq p1
            subst p1
            have ho : Own w (.sl e ks) x (g.cv r j) (g.fp r j) := h.cell r j _ hc
            rw [p4] at ho
            obtain ⟨v', Fi, u1, u2, u3, u4, u5⟩ := own_hole ho p2 hcell
            rw [p5] at u1
            simp only [Option.some.injEq] at u1
            subst u1
            refine ⟨Fi, u2, fun b hb => (u3 b hb).1, fun w' y' F' c' hbk ho' hF' hw' => ?_⟩
            simp only [St.backRC, hc] at hbk
            split at hbk
            · rename_i z hz
              simp only [Option.some.injEq] at hbk
              subst hbk
              refine ⟨_, e, ks, x, _, hc, rfl, Nat.lt_succ_self _, rfl, rfl, List.length_set .., ?_⟩
              show Own w' (.sl e ks) _ (g.cv r j) _
              rw [p4]
              exact u5 w' y' z F' hz ho' hF' hw' fun q hq => (h.fp r j q hq).1
            · simp at hbk
          · simp at hl
        · simp at hl
    · simp at hl
  | _ => simp [St.lend1] at hl
def slKV : List K → List Value → List (K × Value)
  | .sl e ks' :: ks, v :: vs => (.sl e ks', v) :: slKV ks vs
  | .int _ :: ks, _ :: vs => slKV ks vs
  | .bool :: ks, _ :: vs => slKV ks vs
  | .str :: ks, _ :: vs => slKV ks vs
  | _, _ => []
def ioKV : List PK → List Value → List (K × Value)
  | .io gg ks :: ps, v :: vs => slKV ks (cellsOf gg v) ++ ioKV ps vs
  | .c _ _ :: ps, _ :: vs => ioKV ps vs
  | .pt _ :: ps, _ :: vs => ioKV ps vs
  | .nil :: ps, _ :: vs => ioKV ps vs
  | .fn _ _ :: ps, _ :: vs => ioKV ps vs
  | .mv _ :: ps, _ :: vs => ioKV ps vs
  | _, _ => []
def LnAll (g : Gh) (st : St) (w : World) (F : Nat → Nat → Prop) : List Ln → List (K × Value) → Nat → Prop
  | [], [], _ => True
  | n :: l, p :: r, i => LnOK g st w n p.1 (F i) p.2 ∧ LnAll g st w F l r (i + 1)
  | _, _, _ => False
theorem LnOK.eq {g : Gh} {st : St} {n : Ln} {k : K} {F F' : Nat → Prop} {v : Value} (h : LnOK g st w n k F v) (e : ∀ b, F b ↔ F' b) : LnOK g st w n k F' v := by
  have : F = F' := funext fun b => propext (e b)
  rw [← this]; exact h
theorem LnAll.eq {g : Gh} {st : St} {F F' : Nat → Nat → Prop} : ∀ (l : List Ln) (r : List (K × Value)) (i : Nat), (∀ m b, i ≤ m → m < i + l.length → (F m b ↔ F' m b)) → LnAll g st w F l r i → LnAll g st w F' l r i
  | [], [], _, _, _ => trivial
  | n :: l, p :: r, i, e, h => ⟨h.1.eq fun b => e i b (Nat.le_refl _) (by simp), LnAll.eq l r (i + 1) (fun m b h1 h2 => e m b (by omega) (by simp only [List.length_cons]; omega)) h.2⟩
  | [], _ :: _, _, _, h => h.elim
  | _ :: _, [], _, _, h => h.elim
theorem LnAll.len {g : Gh} {st : St} {F : Nat → Nat → Prop} : ∀ (l : List Ln) (r : List (K × Value)) (i : Nat), LnAll g st w F l r i → l.length = r.length
  | [], [], _, _ => rfl
  | n :: l, p :: r, i, h => congrArg (· + 1) (LnAll.len l r (i + 1) h.2)
  | [], _ :: _, _, h => h.elim
  | _ :: _, [], _, h => h.elim
theorem LnAll.app {g : Gh} {st : St} {F : Nat → Nat → Prop} : ∀ (l l' : List Ln) (r r' : List (K × Value)) (i : Nat), LnAll g st w F l r i → LnAll g st w F l' r' (i + l.length) → LnAll g st w F (l ++ l') (r ++ r') i
  | [], _, [], _, _, _, h => h
  | n :: l, l', p :: r, r', i, h, h' => ⟨h.1, LnAll.app l l' r r' (i + 1) h.2 (by rw [show i + 1 + l.length = i + (n :: l).length by simp; omega]; exact h')⟩
  | [], _, _ :: _, _, _, h, _ => h.elim
  | _ :: _, _, [], _, _, h, _ => h.elim
theorem lends_rel {g : Gh} {st : St} (h : Rel cx Z g st a w) : ∀ (ks : List K) (l : List AV) (cs : List Value) (i : Nat) (ns : List Ln) (y : Tl ks), RelAVs Z g st w l cs → st.lends ks l = some (ns, y) →
    ns.length = slCount ks ∧ ∃ F : Nat → Nat → Prop, ResCells true Z w F ks y cs i ∧ LnAll g st w F ns (slKV ks cs) i ∧ ∀ m b, F m b → i ≤ m ∧ m < i + slCount ks
  | [], [], [], i, ns, y, _, hl => by
    simp only [St.lends, Option.some.injEq, Prod.mk.injEq] at hl
    obtain ⟨rfl, _⟩ := hl
    exact ⟨rfl, fun _ _ => False, trivial, trivial, fun _ _ h => h.elim⟩
  | [], [], _ :: _, _, _, _, h1, _ => h1.elim
  | [], _ :: _, _, _, _, _, _, hl => by simp [St.lends] at hl
  | _ :: _, [], _, _, _, _, _, hl => by simp [St.lends] at hl
  | _ :: _, _ :: _, [], _, _, _, h1, _ => h1.elim
  | .sl e ks' :: ks, av :: l, v :: vs, i, ns, y, h1, hl => by
    simp only [St.lends] at hl
    split at hl
    · rename_i p q hp hq
      cases hl
      obtain ⟨F1, k1, k2⟩ := lend1_rel h h1.1 hp
      obtain ⟨hlen, F, m1, m2, m3⟩ := lends_rel h ks l vs (i + 1) q.1 q.2 h1.2 hq
      have hs : ∀ m b, (i + 1 ≤ m) → (((m = i ∧ F1 b) ∨ F m b) ↔ F m b) := fun m b hm => ⟨fun hh => hh.elim (fun h => by omega) id, .inr⟩
      refine ⟨by simp [slCount, hlen], fun m b => (m = i ∧ F1 b) ∨ F m b, ⟨Own.frame _ _ _ _ _ (fun b hb => .inl ⟨rfl, hb⟩) (fun _ _ _ => rfl) k1, ResCells.mono (fun m b hb => .inr hb) _ _ _ _ m1⟩, ⟨k2.eq fun b => ⟨fun hb => .inl ⟨rfl, hb⟩, fun hb => hb.elim (fun h => h.2) fun hb => by have := (m3 i b hb).1; omega⟩, ?_⟩, fun m b hb => ?_⟩
      · exact LnAll.eq _ _ _ (fun m b h1 _ => (hs m b h1).symm) m2
      · simp only [slCount]
        rcases hb with hb | hb
        · omega
        · have := m3 m b hb; omega
    · simp at hl
  | .int k :: ks, av :: l, v :: vs, i, ns, y, h1, hl => by
    simp only [St.lends] at hl
    split at hl
    · rename_i x q hx hf hq
      cases hl
      obtain ⟨hlen, F, m1, m2, m3⟩ := lends_rel h ks l vs i q.1 q.2 h1.2 hq
      exact ⟨hlen, F, ⟨readAs_fast h h1.1 hf hx, m1⟩, m2, m3⟩
    · simp at hl
  | .bool :: ks, av :: l, v :: vs, i, ns, y, h1, hl => by
    simp only [St.lends] at hl
    split at hl
    · rename_i x q hx hf hq
      cases hl
      obtain ⟨hlen, F, m1, m2, m3⟩ := lends_rel h ks l vs i q.1 q.2 h1.2 hq
      exact ⟨hlen, F, ⟨readAs_fast h h1.1 hf hx, m1⟩, m2, m3⟩
    · simp at hl
  | .str :: ks, av :: l, v :: vs, i, ns, y, h1, hl => by
    simp only [St.lends] at hl
    split at hl
    · rename_i x q hx hf hq
      cases hl
      obtain ⟨hlen, F, m1, m2, m3⟩ := lends_rel h ks l vs i q.1 q.2 h1.2 hq
      exact ⟨hlen, F, ⟨readAs_fast h h1.1 hf hx, m1⟩, m2, m3⟩
    · simp at hl
theorem argsIO_rel {g : Gh} {st : St} (h : Rel cx Z g st a w) {Z' : Nat → Prop} (hz0 : ∀ b, Z b → b < w.heap.size → Z' b) (hb0 : ∀ r R, look st.rt r = some R → R.box = true → Z' (g.be r)) : ∀ (ps : List PK) (l : List TV) (vs : List Value) (i : Nat) (ns : List Ln) (x : PT ps), RelTVs Z g st w l vs → st.argsIO ps l = some (ns, x) →
    ∃ F : Nat → Nat → Prop, ArgsR Z' w F ps x vs i ∧ LnAll g st w F ns (ioKV ps vs) i ∧ ∀ m b, F m b → i ≤ m ∧ m < i + ns.length
  | [], [], [], i, ns, x, _, hl => by
    simp only [St.argsIO, Option.some.injEq, Prod.mk.injEq] at hl
    obtain ⟨rfl, _⟩ := hl
    exact ⟨fun _ _ => False, trivial, trivial, fun _ _ h => h.elim⟩
  | [], [], _ :: _, _, _, _, h1, _ => h1.elim
  | [], _ :: _, _, _, _, _, _, hl => by simp [St.argsIO] at hl
  | .c _ _ :: _, [], _, _, _, _, _, hl => by simp [St.argsIO] at hl
  | .fn _ _ :: _, [], _, _, _, _, _, hl => by simp [St.argsIO] at hl
  | .io _ _ :: _, [], _, _, _, _, _, hl => by simp [St.argsIO] at hl
  | .mv _ :: _, [], _, _, _, _, _, hl => by simp [St.argsIO] at hl
  | .mv _ :: _, _ :: _, _, _, _, _, _, hl => by simp [St.argsIO] at hl
  | .pt _ :: _, [], _, _, _, _, _, hl => by simp [St.argsIO] at hl
  | .nil :: _, [], _, _, _, _, _, hl => by simp [St.argsIO] at hl
  | .nil :: _, _ :: _, _, _, _, _, _, hl => by simp [St.argsIO] at hl
  | .pt _ :: _, _ :: _, _, _, _, _, _, hl => by simp [St.argsIO] at hl
  | .c _ _ :: _, _ :: _, [], _, _, _, h1, _ => h1.elim
  | .fn _ _ :: _, _ :: _, [], _, _, _, h1, _ => h1.elim
  | .io _ _ :: _, _ :: _, [], _, _, _, h1, _ => h1.elim
  | .c gg ks :: ps, tv :: r, v :: vs, i, ns, x, h1, hl => by
    unfold St.argsIO at hl
    cases hl2 : tv.list? with
    | none => rw [hl2] at hl; simp at hl
    | some p =>
      obtain ⟨gg', l⟩ := p
      rw [hl2] at hl
      simp only at hl
      cases hb : boolEq gg gg' && l.all AV.fast with
      | false => rw [hb] at hl; simp at hl
      | true =>
        rw [hb] at hl
        simp only [cond_true] at hl
        simp only [Bool.and_eq_true] at hb
        have hg := boolEq_eq hb.1
        subst hg
        split at hl
        · rename_i z q hz hq
          cases hl
          obtain ⟨us, e1, e2⟩ := RelC_list (list?_C h1.1 hl2)
          obtain ⟨F, k1, k2, k3⟩ := argsIO_rel h hz0 hb0 ps r vs i q.1 q.2 h1.2 hq
          exact ⟨F, ⟨⟨us, e1, ROs.zone hz0 ks z us (readAll_fast h ks l us z e2 hb.2 hz)⟩, k1⟩, k2, k3⟩
        · simp at hl
  | .fn f cs :: ps, tv :: r, v :: vs, i, ns, x, h1, hl => by
    cases tv with
    | fn f' caps =>
      unfold St.argsIO at hl
      cases hb : Nat.beq f f' with
      | false => rw [hb] at hl; simp at hl
      | true =>
        rw [hb] at hl
        simp only [cond_true] at hl
        have hf := beq_eq hb
        subst hf
        split at hl
        · rename_i z q hz hq
          cases hl
          obtain ⟨us, e1, e2⟩ := h1.1
          obtain ⟨F, k1, k2, k3⟩ := argsIO_rel h hz0 hb0 ps r vs i q.1 q.2 h1.2 hq
          exact ⟨F, ⟨⟨us, e1, caps_ro h hz0 (fun _ => hb0) cs caps us.toList z e2 hz⟩, k1⟩, k2, k3⟩
        · simp at hl
    | _ => simp [St.argsIO] at hl
  | .io gg ks :: ps, tv :: r, v :: vs, i, ns, x, h1, hl => by
    unfold St.argsIO at hl
    cases hl2 : tv.list? with
    | none => rw [hl2] at hl; simp at hl
    | some p =>
      obtain ⟨gg', l⟩ := p
      rw [hl2] at hl
      simp only at hl
      cases hb : boolEq gg gg' with
      | false => rw [hb] at hl; simp at hl
      | true =>
        rw [hb] at hl
        simp only [cond_true] at hl
        have hg := boolEq_eq hb
        subst hg
        split at hl
        · rename_i p q hp hq
          cases hl
          obtain ⟨us, e1, e2⟩ := RelC_list (list?_C h1.1 hl2)
          obtain ⟨hlen, F1, m1, m2, m3⟩ := lends_rel h ks l us i p.1 p.2 e2 hp
          obtain ⟨F, k1, k2, k3⟩ := argsIO_rel h hz0 hb0 ps r vs (i + slCount ks) q.1 q.2 h1.2 hq
          refine ⟨fun m b => F1 m b ∨ F m b, ⟨⟨us, e1, ResCells.mono (fun m b hb => .inl hb) _ _ _ _ (ResCells.zone hz0 _ _ _ _ m1)⟩, ArgsR.mono (fun m b hb => .inr hb) _ _ _ _ k1⟩, ?_, fun m b hb => ?_⟩
          · simp only [ioKV, e1.eq]
            refine LnAll.app _ _ _ _ _ (LnAll.eq _ _ _ (fun m b hm1 hm2 => ⟨.inl, fun hh => hh.elim id fun hh => by have := (k3 m b hh).1; omega⟩) m2) ?_
            rw [hlen]
            exact LnAll.eq _ _ _ (fun m b hm1 hm2 => ⟨.inr, fun hh => hh.elim (fun hh => by have := (m3 m b hh).2; omega) id⟩) k2
          · simp only [List.length_append, hlen]
            rcases hb with hb | hb
            · have := m3 m b hb; omega
            · have := k3 m b hb; omega
        · simp at hl
def PostAll (w' : World) (G : Nat → Nat → Prop) : List ((k : K) × T k) → List (K × Value) → Nat → Prop
  | [], [], _ => True
  | y :: l, p :: r, i => (y.1 = p.1 ∧ Own w' y.1 y.2 p.2 (G i)) ∧ PostAll w' G l r (i + 1)
  | _, _, _ => False
theorem PostAll.app {w' : World} {G : Nat → Nat → Prop} : ∀ (l l' : List ((k : K) × T k)) (r r' : List (K × Value)) (i : Nat), PostAll w' G l r i → PostAll w' G l' r' (i + l.length) → PostAll w' G (l ++ l') (r ++ r') i
  | [], _, [], _, _, _, h => h
  | n :: l, l', p :: r, r', i, h, h' => ⟨h.1, PostAll.app l l' r r' (i + 1) h.2 (by rw [show i + 1 + l.length = i + (n :: l).length by simp; omega]; exact h')⟩
  | [], _, _ :: _, _, _, h, _ => h.elim
  | _ :: _, _, [], _, _, h, _ => h.elim
theorem slList_len : ∀ (ks : List K) (y : Tl ks), (slList ks y).length = slCount ks
  | [], _ => rfl
  | .sl _ _ :: ks, x => congrArg (· + 1) (slList_len ks x.2)
  | .int _ :: ks, x => slList_len ks x.2
  | .bool :: ks, x => slList_len ks x.2
  | .str :: ks, x => slList_len ks x.2
theorem post_cells {Z' : Nat → Prop} {w' : World} {G : Nat → Nat → Prop} : ∀ (ks : List K) (y : Tl ks) (cs : List Value) (i : Nat), ResCells true Z' w' G ks y cs i → PostAll w' G (slList ks y) (slKV ks cs) i
  | [], _, [], _, _ => trivial
  | .sl e ks' :: ks, y, v :: vs, i, h => ⟨⟨rfl, h.1⟩, post_cells ks y.2 vs (i + 1) h.2⟩
  | .int _ :: ks, y, v :: vs, i, h => post_cells ks y.2 vs i h.2
  | .bool :: ks, y, v :: vs, i, h => post_cells ks y.2 vs i h.2
  | .str :: ks, y, v :: vs, i, h => post_cells ks y.2 vs i h.2
  | [], _, _ :: _, _, h => h.elim
  | .sl _ _ :: _, _, [], _, h => h.elim
  | .int _ :: _, _, [], _, h => h.elim
  | .bool :: _, _, [], _, h => h.elim
  | .str :: _, _, [], _, h => h.elim
def noMv : List PK → Bool
  | [] => true
  | .mv _ :: _ => false
  | .c _ _ :: ps => noMv ps
  | .pt _ :: ps => noMv ps
  | .nil :: ps => noMv ps
  | .fn _ _ :: ps => noMv ps
  | .io _ _ :: ps => noMv ps
theorem post_io {Z' : Nat → Prop} {w' : World} {G : Nat → Nat → Prop} : ∀ (ps : List PK) (y : IOT ps) (vs : List Value) (i : Nat), noMv ps = true → vs.length = ps.length → IoR Z' w' G ps y vs i → PostAll w' G (ioList ps y) (ioKV ps vs) i
  | [], _, [], _, _, _, _ => trivial
  | .c _ _ :: ps, y, v :: vs, i, hn, hl, h => post_io ps y vs i hn (by simpa using hl) h
  | .pt _ :: ps, y, v :: vs, i, hn, hl, h => post_io ps y vs i hn (by simpa using hl) h
  | .nil :: ps, y, v :: vs, i, hn, hl, h => post_io ps y vs i hn (by simpa using hl) h
  | .fn _ _ :: ps, y, v :: vs, i, hn, hl, h => post_io ps y vs i hn (by simpa using hl) h
  | .mv _ :: ps, y, v :: vs, i, hn, hl, h => by simp [noMv] at hn
  | .io gg ks :: ps, y, v :: vs, i, hn, hl, ⟨⟨cs, e, h⟩, h'⟩ => by
    simp only [ioKV, ioList, e.eq]
    exact PostAll.app _ _ _ _ _ (post_cells ks y.1 cs i h) (by rw [slList_len]; exact post_io ps y.2 vs _ hn (by simpa using hl) h')
  | [], _, _ :: _, _, _, hl, _ => by simp at hl
  | .c _ _ :: ps, y, [], i, hn, hl, h => h.elim
  | .pt _ :: ps, y, [], i, hn, hl, h => h.elim
  | .nil :: ps, y, [], i, hn, hl, h => h.elim
  | .fn _ _ :: ps, y, [], i, hn, hl, h => h.elim
  | .io _ _ :: ps, y, [], i, hn, hl, h => h.elim
  | .mv _ :: ps, y, [], i, hn, hl, h => h.elim
theorem argsIO_noMv {st : St} : ∀ (ps : List PK) (l : List TV) (q : List Ln × PT ps), st.argsIO ps l = some q → noMv ps = true
  | [], _, _, _ => rfl
  | .c gg ks :: ps, [], q, h => by simp [St.argsIO] at h
  | .fn _ _ :: ps, [], q, h => by simp [St.argsIO] at h
  | .io _ _ :: ps, [], q, h => by simp [St.argsIO] at h
  | .mv _ :: ps, [], q, h => by simp [St.argsIO] at h
  | .mv _ :: ps, _ :: _, q, h => by simp [St.argsIO] at h
  | .pt _ :: ps, [], q, h => by simp [St.argsIO] at h
  | .nil :: ps, [], q, h => by simp [St.argsIO] at h
  | .nil :: ps, _ :: _, q, h => by simp [St.argsIO] at h
  | .pt _ :: ps, _ :: _, q, h => by simp [St.argsIO] at h
  | .c gg ks :: ps, tv :: r, q, h => by
    unfold St.argsIO at h
    split at h
    · rename_i g' l hl
      cases hb : boolEq gg g' && l.all AV.fast with
      | false => rw [hb] at h; simp at h
      | true =>
        rw [hb] at h
        simp only [cond_true] at h
        split at h
        · rename_i y hx hy; exact argsIO_noMv ps r _ hy
        · simp at h
    · simp at h
  | .fn f cs :: ps, tv :: r, q, h => by
    cases tv with
    | fn f' caps =>
      unfold St.argsIO at h
      cases hb : Nat.beq f f' with
      | false => rw [hb] at h; simp at h
      | true =>
        rw [hb] at h
        simp only [cond_true] at h
        split at h
        · rename_i y hx hy; exact argsIO_noMv ps r _ hy
        · simp at h
    | _ => simp [St.argsIO] at h
  | .io gg ks :: ps, tv :: r, q, h => by
    unfold St.argsIO at h
    split at h
    · rename_i g' l hl
      cases hb : boolEq gg g' with
      | false => rw [hb] at h; simp at h
      | true =>
        rw [hb] at h
        simp only [cond_true] at h
        split at h
        · rename_i y hx hy; exact argsIO_noMv ps r _ hy
        · simp at h
    · simp at h
def QAll (g : Gh) (st : St) (w w' : World) (F G : Nat → Nat → Prop) : List (Nat × Nat × RC) → Nat → Prop
  | [], _ => True
  | (r, j, c) :: l, i => (BackOK g st w w' r j c (F i) (G i) ∧ ∀ b, F i b → g.fp r j b) ∧ QAll g st w w' F G l (i + 1)
theorem backs_rel {g : Gh} {st : St} {w' : World} {F G : Nat → Nat → Prop} :
    ∀ (ns : List Ln) (ys : List ((k : K) × T k)) (kv : List (K × Value)) (i : Nat) (qs : List (Nat × Nat × RC)), st.backs ns ys = some qs → LnAll g st w F ns kv i → PostAll w' G ys kv i →
      (∀ m n, ns[m]? = some n → (∀ q, G (i + m) q → g.fp n.r n.j q → F (i + m) q) ∧ ∀ q, q < w.heap.size → g.fp n.r n.j q → ¬ F (i + m) q → w'.heap[q]? = w.heap[q]?) →
      QAll g st w w' F G qs i ∧ qs.map (fun q => (q.1, q.2.1)) = ns.map fun n => (n.r, n.j)
  | [], [], [], i, qs, hb, _, _, _ => by
    simp only [St.backs, Option.some.injEq] at hb
    subst hb
    exact ⟨trivial, rfl⟩
  | n :: ns, y :: ys, p :: kv, i, qs, hb, hL, hP, hh => by
    simp only [St.backs] at hb
    split at hb
    · rename_i c q hc hq
      simp only [Option.some.injEq] at hb
      subst hb
      obtain ⟨k1, k2⟩ := backs_rel ns ys kv (i + 1) q hq hL.2 hP.2 fun m n' hm => by
        have := hh (m + 1) n' (by simpa using hm)
        rw [show i + (m + 1) = i + 1 + m by omega] at this
        exact this
      obtain ⟨h1, h2⟩ := hh 0 n rfl
      obtain ⟨k0, y0⟩ := y
      obtain ⟨kp, v⟩ := p
      obtain ⟨⟨e1, e2⟩, _⟩ := hP
      simp only at e1 e2
      subst e1
      exact ⟨⟨⟨hL.1.back w' y0 (G i) c hc e2 h1 h2, hL.1.sub⟩, k1⟩, by simp [k2]⟩
    · simp at hb
  | [], [], _ :: _, _, _, _, h, _, _ => h.elim
  | [], _ :: _, _, _, _, hb, _, _, _ => by simp [St.backs] at hb
  | _ :: _, [], _, _, _, hb, _, _, _ => by simp [St.backs] at hb
  | _ :: _, _ :: _, [], _, _, _, h, _, _ => h.elim
end
end Go.Av
namespace Go.Av
open Go.RowKit (Below)
section
variable {P : Program} {cx : Cx P} {Z : Nat → Prop} {a : Act} {w : World} {E : En}
def lentOf (g : Gh) (F G : Nat → Nat → Prop) : List (Nat × Nat × RC) → Nat → Lent
  | [], _ => fun _ _ => none
  | (r, j, c) :: l, i => fun r' j' => if r = r' ∧ j = j' then some (c, fun b => (g.fp r j b ∧ ¬ F i b) ∨ G i b) else lentOf g F G l (i + 1) r' j'
theorem lentOf_some {g : Gh} {F G : Nat → Nat → Prop} : ∀ (q : List (Nat × Nat × RC)) (i : Nat) (r j : Nat) (p : RC × (Nat → Prop)), lentOf g F G q i r j = some p → ∃ m, q[m]? = some (r, j, p.1) ∧ p.2 = fun b => (g.fp r j b ∧ ¬ F (i + m) b) ∨ G (i + m) b
  | [], _, _, _, _, h => by simp [lentOf] at h
  | (r0, j0, c) :: l, i, r, j, p, h => by
    simp only [lentOf] at h
    split at h
    · rename_i e
      obtain ⟨rfl, rfl⟩ := e
      simp only [Option.some.injEq] at h
      subst h
      exact ⟨0, rfl, rfl⟩
    · obtain ⟨m, h1, h2⟩ := lentOf_some l (i + 1) r j p h
      exact ⟨m + 1, h1, by rw [h2, show i + 1 + m = i + (m + 1) by omega]⟩
theorem lentOf_is {g : Gh} {F G : Nat → Nat → Prop} : ∀ (q : List (Nat × Nat × RC)) (i m : Nat) (r j : Nat) (c : RC), q[m]? = some (r, j, c) → ∃ p, lentOf g F G q i r j = some p
  | [], _, _, _, _, _, h => by simp at h
  | (r0, j0, c0) :: l, i, m, r, j, c, h => by
    simp only [lentOf]
    split
    · exact ⟨_, rfl⟩
    · rename_i hne
      cases m with
      | zero => simp only [List.getElem?_cons_zero, Option.some.injEq, Prod.mk.injEq] at h; exact absurd ⟨h.1, h.2.1⟩ hne
      | succ m => exact lentOf_is l (i + 1) m r j c (by simpa using h)
theorem setCells_lent {g : Gh} {F G : Nat → Nat → Prop} {st : St} : ∀ (q : List (Nat × Nat × RC)) (i : Nat), LentTo st (st.setCells q) (lentOf g F G q i)
  | [], i => ⟨rfl, fun _ => rfl, fun _ _ => rfl, fun _ _ => rfl⟩
  | (r, j, c) :: l, i => by
    have ih := setCells_lent (g := g) (F := F) (G := G) (st := st) l (i + 1)
    refine ⟨by simp only [St.setCells]; rw [setCell_tm]; exact ih.tm, fun r' => by simp only [St.setCells]; rw [setCell_shape]; exact ih.shape r', fun r' j' => ?_, fun r' hr => ?_⟩
    · simp only [St.setCells]
      rw [setCell_cell]
      simp only [lentOf]
      split
      · rw [ih.cell]
        split
        · simp [Option.map_map]
          rfl
        · rfl
      · exact ih.cell r' j'
    · simp only [St.setCells]
      rw [setCell_rt]
      by_cases e : r = r'
      · have := hr j
        simp [lentOf, e] at this
      · rw [if_neg e]
        refine ih.rt r' fun j' => ?_
        have := hr j'
        simp only [lentOf] at this
        rw [if_neg (fun hh => e hh.1)] at this
        exact this
theorem QAll.get {g : Gh} {st : St} {w w' : World} {F G : Nat → Nat → Prop} : ∀ (q : List (Nat × Nat × RC)) (i m : Nat) (r j : Nat) (c : RC), QAll g st w w' F G q i → q[m]? = some (r, j, c) → BackOK g st w w' r j c (F (i + m)) (G (i + m)) ∧ ∀ b, F (i + m) b → g.fp r j b
  | [], _, _, _, _, _, _, h => by simp at h
  | (r0, j0, c0) :: l, i, 0, r, j, c, h, hq => by
    simp only [List.getElem?_cons_zero, Option.some.injEq, Prod.mk.injEq] at hq
    obtain ⟨rfl, rfl, rfl⟩ := hq
    exact h.1
  | (r0, j0, c0) :: l, i, m + 1, r, j, c, h, hq => by
    have := QAll.get l (i + 1) m r j c h.2 (by simpa using hq)
    rw [show i + 1 + m = i + (m + 1) by omega] at this
    exact this
theorem hasLn_no : ∀ (l : List Ln) (r j m : Nat) (n : Ln), hasLn r j l = false → l[m]? = some n → ¬ (n.r = r ∧ n.j = j)
  | [], _, _, _, _, _, h => by simp at h
  | n0 :: l, r, j, m, n, h, hm => by
    simp only [hasLn, Bool.or_eq_false_iff] at h
    cases m with
    | zero =>
      simp only [List.getElem?_cons_zero, Option.some.injEq] at hm
      subst hm
      rintro ⟨rfl, rfl⟩
      simp at h
    | succ m => exact hasLn_no l r j m n h.2 (by simpa using hm)
theorem noTwo_inj : ∀ (l : List Ln) (m m' : Nat) (n n' : Ln), noTwo l = true → l[m]? = some n → l[m']? = some n' → n.r = n'.r → n.j = n'.j → m = m'
  | [], _, _, _, _, _, h, _, _, _ => by simp at h
  | n0 :: l, m, m', n, n', h, h1, h2, e1, e2 => by
    simp only [noTwo, Bool.and_eq_true, Bool.not_eq_true'] at h
    cases m with
    | zero =>
      cases m' with
      | zero => rfl
      | succ m' =>
        simp only [List.getElem?_cons_zero, Option.some.injEq] at h1
        subst h1
        exact (hasLn_no l n0.r n0.j m' n' h.1 (by simpa using h2) ⟨e1.symm, e2.symm⟩).elim
    | succ m =>
      cases m' with
      | zero =>
        simp only [List.getElem?_cons_zero, Option.some.injEq] at h2
        subst h2
        exact (hasLn_no l n0.r n0.j m n h.1 (by simpa using h1) ⟨e1, e2⟩).elim
      | succ m' => exact congrArg (· + 1) (noTwo_inj l m m' n n' h.2 (by simpa using h1) (by simpa using h2) e1 e2)
theorem LnAll.get {g : Gh} {st : St} {F : Nat → Nat → Prop} : ∀ (l : List Ln) (r : List (K × Value)) (i m : Nat) (n : Ln), LnAll g st w F l r i → l[m]? = some n → ∀ b, F (i + m) b → g.fp n.r n.j b
  | [], _, _, _, _, _, h => by simp at h
  | n0 :: l, p :: r, i, 0, n, h, hm => by
    simp only [List.getElem?_cons_zero, Option.some.injEq] at hm
    subst hm
    exact h.1.sub
  | n0 :: l, p :: r, i, m + 1, n, h, hm => by
    have := LnAll.get l r (i + 1) m n h.2 (by simpa using hm)
    rw [show i + 1 + m = i + (m + 1) by omega] at this
    exact this
  | _ :: _, [], _, _, _, h, _ => h.elim
theorem callIO_spec {st : St} {dst : Option Nat} {tvs : List TV} : ∀ {l : List Su} {st' : St}, (st.callIO dst l tvs).run = some st' → ∃ s ns x z y tv q, s ∈ l ∧ (anySl s.rs = false ∧ s.fresh = true) ∧ noTwo ns = true ∧ st.argsIO s.ps tvs = some (ns, x) ∧ s.ans x = some (z, y) ∧ wrapRes (resAll 0 true s.rs y 0) = some tv ∧ st.backs ns (ioList s.ps z) = some q ∧ st' = (st.setCells q).bindO dst tv
  | [], st', h => by simp [St.callIO, Tr.run] at h
  | s :: r, st', h => by
    have again : (st.callIO dst r tvs).run = some st' → ∃ s' ns x z y tv q, s' ∈ s :: r ∧ (anySl s'.rs = false ∧ s'.fresh = true) ∧ noTwo ns = true ∧ st.argsIO s'.ps tvs = some (ns, x) ∧ s'.ans x = some (z, y) ∧ wrapRes (resAll 0 true s'.rs y 0) = some tv ∧ st.backs ns (ioList s'.ps z) = some q ∧ st' = (st.setCells q).bindO dst tv := fun h => by
      obtain ⟨s', ns, x, z, y, tv, q, h1, h2⟩ := callIO_spec h
      exact ⟨s', ns, x, z, y, tv, q, List.mem_cons_of_mem _ h1, h2⟩
    unfold St.callIO at h
    cases hq : anySl s.rs || !s.fresh with
    | true => rw [hq] at h; exact again h
    | false =>
      rw [hq] at h
      simp only [cond_false] at h
      simp only [Bool.or_eq_false_iff, Bool.not_eq_false'] at hq
      split at h
      · rename_i ns x hx
        split at h
        · rename_i f hf
          cases hn : noTwo ns with
          | false => rw [hn] at h; simp [Tr.run] at h
          | true =>
            rw [hn] at h
            simp only [cond_true, Tr.run, Option.bind_eq_some_iff] at h
            obtain ⟨⟨z, y⟩, h0, h⟩ := h
            obtain ⟨tv, h1, h⟩ := Tr.run_ofO h
            obtain ⟨q, h2, h⟩ := Tr.run_ofO h
            simp only [Tr.run, Option.some.injEq] at h
            exact ⟨s, ns, x, z, y, tv, q, List.mem_cons_self .., hq, hn, hx, by simp [Su.ans, hf, h0], h1, h2, h.symm⟩
        · simp [Tr.run] at h
      · exact again h
theorem w_callIO (hga : GAok P E) {g : Gh} {st : St} (h : Rel cx Z g st a w) (hn : NoMay st) (hsz : Fit cx E a) {o : Oper} {dst : Option Nat} (hdn : ∀ d, dst = some d → Dst cx a d) (hd : o.dst = dst) {c : Call} {f : Operand} {gid : Nat} {caps : List (Bool × List AV)} {l : List TV}
    (ho : o.op = .call c) (hcal : c.callee = .value f) (hg : st.get f = some (.fn gid caps)) (hl : st.getAll c.args.toList = some l) {st' : St}
    (hrun : (st.callIO dst (E.ga gid) (l ++ caps.map fun p => bif p.1 then .agg p.2 else (match p.2 with | [a] => .v a | _ => .agg p.2))).run = some st') : WStep P cx E st' a w o := by
  have hc := hn.cons.cons
  obtain ⟨s, ns, x, z, y, tv, q, hs, ⟨hsl, hfr⟩, hnt, hx, hy, hw, hq, rfl⟩ := callIO_spec hrun
  obtain ⟨cv, ef, ec⟩ := get_rel h hc hg
  have hrel := RelTVs.app (getAll_rels h hc _ _ hl) (caps_rels _ _ ec)
  have hvs : c.args.toList.map a.eval ++ cv.toList = (c.args.map a.eval ++ cv).toList := by simp
  rw [hvs] at hrel
  obtain ⟨F, k1, k2, k3⟩ := argsIO_rel h (Z' := Zb Z g st) (fun _ h _ => .inl h) (fun r R hR hb => .inr ⟨r, R, hR, hb, rfl⟩) s.ps _ _ 0 ns x hrel hx
  have hin : ∀ i b, F i b → ∃ n, ns[i]? = some n ∧ g.fp n.r n.j b := fun i b hb => by
    have hlt : i < ns.length := by have := (k3 i b hb).2; omega
    have := LnAll.get ns _ 0 i _ k2 (List.getElem?_eq_getElem hlt) b (by rw [Nat.zero_add]; exact hb)
    exact ⟨_, List.getElem?_eq_getElem hlt, this⟩
  have hdis : ∀ i j b, F i b → F j b → i = j := fun i j b h1 h2 => by
    obtain ⟨n1, q1, q2⟩ := hin i b h1
    obtain ⟨n2, q3, q4⟩ := hin j b h2
    obtain ⟨e1, e2⟩ := h.disj _ _ _ _ b q2 q4
    exact noTwo_inj ns i j n1 n2 hnt q1 q3 e1 e2
  have hsu := hga gid s hs w (Zb Z g st) F _ x (z, y) (h.gl.mono (Nat.le_refl _) fun b hb _ => ⟨.inl hb, rfl⟩) k1 (Zb_lt h) (fun i b hb => by obtain ⟨n, _, q2⟩ := hin i b hb; exact ⟨(h.fp _ _ _ q2).1, Zb_fp h q2⟩) hdis hy
  have htv : ¬ tv.isMay := wrapRes_may hw
  have hnm : NoMay ((st.setCells q).bindO dst tv) := fun t tv' ht => by
    cases dst with
    | none =>
      have e : (st.setCells q).tm = st.tm := (setCells_lent (g := g) (F := F) (G := F) q 0).tm
      exact hn t tv' (by rw [← e]; exact ht)
    | some d =>
      have e : (st.setCells q).tm = st.tm := (setCells_lent (g := g) (F := F) (G := F) q 0).tm
      simp only [St.bindO] at ht
      rw [bindT_tm] at ht
      split at ht
      · simp only [Option.some.injEq] at ht; subst ht; exact htv
      · exact hn t tv' (by rw [← e]; exact ht)
  refine ⟨hnm, fun next Q hk => ?_⟩
  unfold Oper.wp
  rw [run_call ho hcal ef]
  refine upon_of hsu ?_
  rintro v w' ⟨Z', H, vs, rfl, ha, hio, hr⟩
  have hlen : (c.args.map a.eval ++ cv).toList.length = s.ps.length := ArgsR_len _ _ _ _ k1
  have hpost := post_io s.ps z _ 0 (argsIO_noMv s.ps _ _ hx) hlen hio
  have hgsub : ∀ i b, H (2 * i) b → (∃ m, F m b) ∨ w.heap.size ≤ b := fun i b hb => (ha.fp _ b hb).2.2
  have hsame : ∀ (m : Nat) (n : Ln), ns[m]? = some n → ∀ b i, F i b → g.fp n.r n.j b → i = m := fun m n hm b i hi hb => by
    obtain ⟨n1, q1, q2⟩ := hin i b hi
    obtain ⟨e1, e2⟩ := h.disj _ _ _ _ b q2 hb
    exact noTwo_inj ns i m n1 n hnt q1 hm e1 e2
  rw [hfr] at hr
  obtain ⟨hQ, hnames⟩ := backs_rel (w := w) (w' := w') (F := F) (G := fun i => H (2 * i)) ns _ _ 0 q hq k2 hpost fun m n hm => by
    rw [Nat.zero_add]
    refine ⟨fun b hb hfb => ?_, fun b hlt hfb hnF => ha.block b hlt fun i hi => ?_⟩
    · rcases hgsub m b hb with ⟨i, hi⟩ | hnew
      · have := hsame m n hm b i hi hfb
        rw [← this]; exact hi
      · have := (h.fp _ _ _ hfb).1
        omega
    · have := hsame m n hm b i hi hfb
      exact hnF (this ▸ hi)
  have hname : ∀ (m r j : Nat) (c' : RC), q[m]? = some (r, j, c') → ∃ n : Ln, ns[m]? = some n ∧ n.r = r ∧ n.j = j := fun m r j c' hm => by
    have h1 : (q.map (fun q => (q.1, q.2.1)))[m]? = some (r, j) := by rw [List.getElem?_map, hm]; rfl
    rw [hnames, List.getElem?_map] at h1
    cases hm2 : ns[m]? with
    | none => rw [hm2] at h1; simp at h1
    | some n =>
      rw [hm2] at h1
      simp only [Option.map_some, Option.some.injEq, Prod.mk.injEq] at h1
      exact ⟨n, rfl, h1.1, h1.2⟩
  have hnameB : ∀ (m : Nat) (n : Ln), ns[m]? = some n → ∃ p, lentOf g F (fun i => H (2 * i)) q 0 n.r n.j = some p := fun m n hm => by
    have h1 : (ns.map fun n => (n.r, n.j))[m]? = some (n.r, n.j) := by rw [List.getElem?_map, hm]; rfl
    rw [← hnames, List.getElem?_map] at h1
    cases hm2 : q[m]? with
    | none => rw [hm2] at h1; simp at h1
    | some c' =>
      obtain ⟨r1, j1, c1⟩ := c'
      rw [hm2] at h1
      simp only [Option.map_some, Option.some.injEq, Prod.mk.injEq] at h1
      obtain ⟨rfl, rfl⟩ := h1
      exact lentOf_is q 0 m _ _ c1 hm2
  have hlent := setCells_lent (g := g) (F := F) (G := fun i => H (2 * i)) (st := st) q 0
  obtain ⟨hR, hM⟩ := h.lend hlent ha.os ha.tape ha.output ha.size
    (fun r j p hp => by
      obtain ⟨m, e1, e2⟩ := lentOf_some q 0 r j p hp
      obtain ⟨⟨c0, e, ks, xs, xs', f1, f2, f3, f4, f5, f6, f7⟩, _⟩ := QAll.get q 0 m r j p.1 hQ e1
      exact ⟨c0, f1, f2, f3, e, ks, xs, xs', f4, f5, f6, by rw [e2]; exact f7⟩)
    (fun r j p hp b hb => by
      obtain ⟨m, e1, e2⟩ := lentOf_some q 0 r j p hp
      rw [e2] at hb
      rcases hb with ⟨hb, _⟩ | hb
      · obtain ⟨t1, t2, t3, _⟩ := h.fp r j b hb
        exact ⟨Nat.lt_of_lt_of_le t1 ha.size, .inl ⟨r, j, p, hp, hb⟩, t3⟩
      · obtain ⟨t1, t2, t3⟩ := ha.fp _ b hb
        refine ⟨t1, ?_, fun hz => t2 (ha.z b (.inl hz))⟩
        rcases t3 with ⟨i, hi⟩ | hnew
        · obtain ⟨n, q1, q2⟩ := hin i b hi
          obtain ⟨p0, hp0⟩ := hnameB i n q1
          exact .inl ⟨n.r, n.j, p0, hp0, q2⟩
        · exact .inr hnew)
    (fun r j p r' j' p' b hp hp' hb hb' => by
      obtain ⟨m, e1, e2⟩ := lentOf_some q 0 r j p hp
      obtain ⟨m', e1', e2'⟩ := lentOf_some q 0 r' j' p' hp'
      rw [e2] at hb
      rw [e2'] at hb'
      rw [Nat.zero_add] at hb hb'
      have cross : ∀ m r j c1 i, q[m]? = some (r, j, c1) → g.fp r j b → ¬ F m b → H (2 * i) b → False := fun m r j c1 i e1 k1 k2 k3 => by
        obtain ⟨n, t1, t2, t3⟩ := hname m r j c1 e1
        rcases hgsub i b k3 with ⟨i', hi'⟩ | hnew
        · have := hsame m n t1 b i' hi' (by rw [t2, t3]; exact k1)
          exact k2 (this ▸ hi')
        · have := (h.fp _ _ _ k1).1; omega
      rcases hb with ⟨hb, hb2⟩ | hb
      · rcases hb' with ⟨hb', _⟩ | hb'
        · exact h.disj _ _ _ _ b hb hb'
        · exact (cross m r j _ m' e1 hb hb2 hb').elim
      · rcases hb' with ⟨hb', hb2'⟩ | hb'
        · exact (cross m' r' j' _ m e1' hb' hb2' hb).elim
        · have := ha.disj _ _ b hb hb'
          have hmm : m = m' := by omega
          subst hmm
          rw [e1] at e1'
          simp only [Option.some.injEq, Prod.mk.injEq] at e1'
          exact ⟨e1'.1, e1'.2.1⟩)
    (fun b hlt hnl => ha.block b hlt fun i hi => by
      obtain ⟨n, q1, q2⟩ := hin i b hi
      obtain ⟨p0, hp0⟩ := hnameB i n q1
      exact hnl _ _ p0 hp0 q2)
  rw [hd]
  cases dst with
  | none => exact hk _ _ _ _ hR hsz
  | some d => exact hk _ _ _ _ (hR.bindV (hdn d rfl) (wrapRes_rel (resR_rel0 _ _ _ _ hr (fun hh => by simp at hh) (fun _ => hsl)) hw)) (hsz.put _ _)
end
end Go.Av
namespace Go.Av
open Go.RowKit (Below)
section
variable {P : Program} {cx : Cx P} {Z : Nat → Prop} {a : Act} {w : World} {E : En}
theorem argsW_rel {Z' : Nat → Prop} (hz0 : ∀ b, Z b → b < w.heap.size → Z' b) : ∀ (ps : List PK) (l : List TV) (vs : List Value) (st : St) (g : Gh) (st' : St) (x : PT ps) (i : Nat), Rel cx Z g st a w → (∀ r R, look st.rt r = some R → R.box = true → Z' (g.be r)) → RelTVs Z g st w l vs → st.argsW ps l = some (st', x) →
    ∃ g' F n, Rel cx Z g' st' a w ∧ Taken cx Z w g g' st st' F i n ∧ ArgsR Z' w F ps x vs i ∧ st'.tm = st.tm
  | [], [], vs, st, g, st', x, i, h, hb0, hr, ht => by
    simp only [St.argsW, Option.some.injEq, Prod.mk.injEq] at ht
    obtain ⟨rfl, _⟩ := ht
    cases vs with
    | nil => exact ⟨g, _, 0, h, Taken.refl i, trivial, rfl⟩
    | cons _ _ => exact hr.elim
  | .c gg ks :: ps, tv :: r, [], st, g, st', x, i, h, hb0, hr, ht => hr.elim
  | .c gg ks :: ps, tv :: r, v :: vs, st, g, st', x, i, h, hb0, hr, ht => by
    unfold St.argsW at ht
    cases hl : tv.list? with
    | none => rw [hl] at ht; simp at ht
    | some p =>
      obtain ⟨gg', l⟩ := p
      rw [hl] at ht
      simp only at ht
      cases hb : boolEq gg gg' && l.all AV.fast with
      | false => rw [hb] at ht; simp at ht
      | true =>
        rw [hb] at ht
        simp only [cond_true] at ht
        simp only [Bool.and_eq_true] at hb
        have hg := boolEq_eq hb.1
        subst hg
        split at ht
        · rename_i z q hz hq
          cases ht
          obtain ⟨us, e1, e2⟩ := RelC_list (list?_C hr.1 hl)
          obtain ⟨g', F, n, k1, k2, k3, k4⟩ := argsW_rel hz0 ps r vs st g q.1 q.2 i h hb0 hr.2 hq
          refine ⟨g', F, n, k1, k2, ⟨⟨us, e1, ROs.zone hz0 ks z us (readAll_fast h ks l us z e2 hb.2 hz)⟩, k3⟩, k4⟩
        · simp at ht
  | .fn f cs :: ps, tv :: r, [], st, g, st', x, i, h, hb0, hr, ht => hr.elim
  | .fn f cs :: ps, tv :: r, v :: vs, st, g, st', x, i, h, hb0, hr, ht => by
    cases tv with
    | fn f' caps =>
      unfold St.argsW at ht
      cases hb : Nat.beq f f' with
      | false => rw [hb] at ht; simp at ht
      | true =>
        rw [hb] at ht
        simp only [cond_true] at ht
        have hf := beq_eq hb
        subst hf
        split at ht
        · rename_i z q hz hq
          cases ht
          obtain ⟨us, e1, e2⟩ := hr.1
          obtain ⟨g', F, n, k1, k2, k3, k4⟩ := argsW_rel hz0 ps r vs st g q.1 q.2 i h hb0 hr.2 hq
          exact ⟨g', F, n, k1, k2, ⟨⟨us, e1, caps_ro h hz0 (fun _ => hb0) cs caps us.toList z e2 hz⟩, k3⟩, k4⟩
        · simp at ht
    | _ => simp [St.argsW] at ht
  | .mv k :: ps, tv :: r, [], st, g, st', x, i, h, hb0, hr, ht => hr.elim
  | .mv k :: ps, tv :: r, v :: vs, st, g, st', x, i, h, hb0, hr, ht => by
    cases tv with
    | v av =>
      unfold St.argsW at ht
      split at ht
      · rename_i st1 y hy
        split at ht
        · rename_i q hq
          cases ht
          obtain ⟨g1, F1, k1, k2, k3, k4, k5, k6, k7⟩ := takeAs_rel h hr.1 hy
          have t1 : Taken cx Z w g g1 st st1 (fun n b => n = i ∧ F1 b) i 1 :=
            ⟨fun p v => RelC.keep k2.keep p v, fun x v => RelAV.keep k2.keep x v, k5, fun n => ⟨fun b hb => k4.lt b hb.2, fun b hb => k4.own b hb.2, fun b hb => k4.z b hb.2, fun b hb => k4.fp b hb.2, fun b hb => k4.box b hb.2⟩, fun n b hb => k6 b hb.2, fun n m b h1 h2 => h1.1.trans h2.1.symm, fun i b hb => ⟨by omega, by omega⟩, k2.be, k2.box⟩
          have hr2 : ∀ (l : List TV) (vs : List Value), RelTVs Z g st w l vs → RelTVs Z g1 st1 w l vs := by
            intro l
            induction l with
            | nil => intro vs h; cases vs with | nil => trivial | cons _ _ => exact h.elim
            | cons p r ih => intro vs h; cases vs with | nil => exact h.elim | cons v vs => exact ⟨RelTV.keep k2.keep _ _ h.1, ih vs h.2⟩
          obtain ⟨g', F, n, m1, m2, m3, m4⟩ := argsW_rel hz0 ps r vs st1 g1 q.1 q.2 (i + 1) k1 (fun r R hR hbx => by obtain ⟨R0, e1, e2⟩ := k2.box r R hR; rw [k2.be]; exact hb0 r R0 e1 (by rw [← e2]; exact hbx)) (hr2 _ _ hr.2) hq
          exact ⟨g', fun n b => (n = i ∧ F1 b) ∨ F n b, 1 + n, m1, t1.trans m2, ⟨Own.frame _ _ _ _ _ (fun b hb => .inl ⟨rfl, hb⟩) (fun _ _ _ => rfl) k3, ArgsR.mono (fun i b hb => .inr hb) _ _ _ _ m3⟩, m4.trans k2.tm⟩
        · simp at ht
      · simp at ht
    | _ => simp [St.argsW] at ht
  | .pt _ :: _, _ :: _, _, st, g, st', x, i, h, hb0, hr, ht => by simp [St.argsW] at ht
  | .nil :: _, _ :: _, _, st, g, st', x, i, h, hb0, hr, ht => by simp [St.argsW] at ht
  | .nil :: _, [], _, st, g, st', x, i, h, hb0, hr, ht => by simp [St.argsW] at ht
  | .pt _ :: _, [], _, st, g, st', x, i, h, hb0, hr, ht => by simp [St.argsW] at ht
  | .io _ _ :: _, _ :: _, _, st, g, st', x, i, h, hb0, hr, ht => by simp [St.argsW] at ht
  | [], _ :: _, _, st, g, st', x, i, h, hb0, hr, ht => by simp [St.argsW] at ht
  | .c _ _ :: _, [], _, st, g, st', x, i, h, hb0, hr, ht => by simp [St.argsW] at ht
  | .fn _ _ :: _, [], _, st, g, st', x, i, h, hb0, hr, ht => by simp [St.argsW] at ht
  | .io _ _ :: _, [], _, st, g, st', x, i, h, hb0, hr, ht => by simp [St.argsW] at ht
  | .mv _ :: _, [], _, st, g, st', x, i, h, hb0, hr, ht => by simp [St.argsW] at ht
theorem callW_spec {st : St} {dst : Nat} {tvs : List TV} : ∀ {l : List Su} {st' : St}, (st.callW dst l tvs).run = some st' → ∃ s st1 x z y p, s ∈ l ∧ s.fresh = true ∧ st.argsW s.ps tvs = some (st1, x) ∧ s.ans x = some (z, y) ∧ bindRes dst s y = some p ∧ st1.free dst = true ∧ st' = st1.bindT dst p
  | [], st', h => by simp [St.callW, Tr.run] at h
  | s :: r, st', h => by
    have again : (st.callW dst r tvs).run = some st' → ∃ s' st1 x z y p, s' ∈ s :: r ∧ s'.fresh = true ∧ st.argsW s'.ps tvs = some (st1, x) ∧ s'.ans x = some (z, y) ∧ bindRes dst s' y = some p ∧ st1.free dst = true ∧ st' = st1.bindT dst p := fun h => by
      obtain ⟨s', st1, x, z, y, p, h1, h2⟩ := callW_spec h
      exact ⟨s', st1, x, z, y, p, List.mem_cons_of_mem _ h1, h2⟩
    have fin : ∀ (st1 : St) (p : TV × Option Rt), (bif st1.free dst then Tr.ret (st1.bindT dst p) else .fail).run = some st' → st1.free dst = true ∧ st' = st1.bindT dst p := fun st1 p hh => by
      cases hf : st1.free dst with
      | false => rw [hf] at hh; simp [Tr.run] at hh
      | true => rw [hf] at hh; simp only [cond_true, Tr.run, Option.some.injEq] at hh; exact ⟨rfl, hh.symm⟩
    unfold St.callW at h
    cases hq : quietP s.ps || !s.fresh with
    | true => rw [hq] at h; exact again h
    | false =>
      rw [hq] at h
      simp only [cond_false] at h
      simp only [Bool.or_eq_false_iff, Bool.not_eq_false'] at hq
      split at h
      · rename_i st1 x hx
        split at h
        · rename_i f hf
          simp only [Tr.run, Option.bind_eq_some_iff] at h
          obtain ⟨⟨z, y⟩, h0, h⟩ := h
          obtain ⟨p, h1, h2⟩ := Tr.run_ofO h
          obtain ⟨h3, h4⟩ := fin st1 p h2
          exact ⟨s, st1, x, z, y, p, List.mem_cons_self .., hq.2, hx, by simp [Su.ans, hf, h0], h1, h3, h4⟩
        · rename_i gg hg
          obtain ⟨p, h1, h2⟩ := Tr.run_ofO h
          obtain ⟨h3, h4⟩ := fin st1 p h2
          exact ⟨s, st1, x, io0 s.ps, gg x, p, List.mem_cons_self .., hq.2, hx, by simp [Su.ans, hg], h1, h3, h4⟩
      · exact again h
theorem w_call (hga : GAok P E) {g : Gh} {st : St} (h : Rel cx Z g st a w) (hn : NoMay st) (hsz : Fit cx E a) {o : Oper} {d : Nat} (hd : o.dst = some d) (hdn : Dst cx a d) {c : Call} {f : Operand} {gid : Nat} {caps : List (Bool × List AV)} {l : List TV}
    (ho : o.op = .call c) (hcal : c.callee = .value f) (hg : st.get f = some (.fn gid caps)) (hl : st.getAll c.args.toList = some l) {st' : St}
    (hrun : (st.callW d (E.ga gid) (l ++ caps.map fun p => bif p.1 then .agg p.2 else (match p.2 with | [a] => .v a | _ => .agg p.2))).run = some st') : WStep P cx E st' a w o := by
  have hc := hn.cons.cons
  obtain ⟨s, st1, x, z, y, p, hs, hfr, hx, hy, hp, hfree, rfl⟩ := callW_spec hrun
  obtain ⟨cv, ef, ec⟩ := get_rel h hc hg
  have hrel := RelTVs.app (getAll_rels h hc _ _ hl) (caps_rels _ _ ec)
  have hvs : c.args.toList.map a.eval ++ cv.toList = (c.args.map a.eval ++ cv).toList := by simp
  rw [hvs] at hrel
  obtain ⟨g1, F, n, k1, k2, k3, k4⟩ := argsW_rel (Z' := Zb Z g st) (fun _ h _ => .inl h) s.ps _ _ st g st1 x 0 h (fun r R hR hb => .inr ⟨r, R, hR, hb, rfl⟩) hrel hx
  have hsu := hga gid s hs w (Zb Z g st) F _ x (z, y) (h.gl.mono (Nat.le_refl _) fun b hb _ => ⟨.inl hb, rfl⟩) k3 (Zb_lt h) (fun i b hb => ⟨(k2.free i).lt b hb, by obtain ⟨r, j, hh⟩ := k2.sub i b hb; exact Zb_fp h hh⟩) (fun i j b => k2.disj i j b) hy
  have hp' : ¬ p.1.isMay := by
    unfold bindRes at hp
    split at hp
    · rename_i tv hw
      simp only [Option.some.injEq] at hp
      subst hp
      exact wrapRes_may hw
    · simp at hp
  refine ⟨fun t tv ht => ?_, fun next Q hk => ?_⟩
  · rw [bindT_tm] at ht
    split at ht
    · simp only [Option.some.injEq] at ht; subst ht; exact hp'
    · exact hn t tv (by rw [← k4]; exact ht)
  unfold Oper.wp
  rw [run_call ho hcal ef]
  refine upon_of hsu ?_
  rintro v w' ⟨Z', H, vs, rfl, ha, _, hr⟩
  rw [hd]
  have hFree : Free cx Z g1 st1 w (fun b => ∃ i, F i b) := ⟨fun b ⟨i, hb⟩ => (k2.free i).lt b hb, fun b ⟨i, hb⟩ => (k2.free i).own b hb, fun b ⟨i, hb⟩ => (k2.free i).z b hb, fun b ⟨i, hb⟩ => (k2.free i).fp b hb, fun b ⟨i, hb⟩ => (k2.free i).box b hb⟩
  have hw' : Rel cx Z g1 st1 a w' := k1.wr hFree ha.os ha.tape ha.output ha.size fun b hb hf => ha.block b hb fun i hi => hf ⟨i, hi⟩
  unfold bindRes at hp
  split at hp
  · rename_i tv hw
    simp only [Option.some.injEq] at hp
    rw [hfr, Bool.true_and] at hp
    rw [hfr] at hr hw
    cases hb : anySl s.rs with
    | false =>
      rw [hb] at hp
      subst hp
      exact hk _ _ _ _ (hw'.bindV hdn (wrapRes_rel (resR_rel0 _ _ _ _ hr (fun hh => by simp at hh) (fun _ => hb)) hw)) (hsz.put _ _)
    | true =>
      rw [hb] at hp
      subst hp
      have hHb : ∀ n b, H n b → b < w'.heap.size ∧ (cx.F0 b ∨ cx.w0.heap.size ≤ b) ∧ ¬ Z b ∧ (∀ r j, ¬ g1.fp r j b) ∧ (∀ r' R', look st1.rt r' = some R' → R'.box = true → g1.be r' ≠ b) := fun n b hb => by
        obtain ⟨h1, h2, h3⟩ := ha.fp n b hb
        have hz : ¬ Z b := fun hz => h2 (ha.z b (.inl hz))
        rcases h3 with hf | hnew
        · exact ⟨h1, hFree.own b hf, hz, hFree.fp b hf, hFree.box b hf⟩
        · refine ⟨h1, .inr (Nat.le_trans k1.size hnew), hz, fun r j hh => by have := (k1.fp r j b hh).1; omega, fun r' R' hR' hb' he => ?_⟩
          obtain ⟨_, _, _, _, cs1, el1, fr1, b5, _⟩ := k1.box r' R' hR' hb'
          rw [he, Array.getElem?_eq_none hnew] at b5
          simp at b5
      have h6 := Rel.addRoot hw' (r := d) (be := 0) (R := ⟨false, resRoots s.rs y⟩) (cv := fun j => (slAll s.rs vs).getD j undef) (fp := fun j b => j < (resRoots s.rs y).length ∧ H (2 * j + 1) b) (free_look hfree)
        (fun j b hb => by
          obtain ⟨t1, t2, t3, t4, t5⟩ := hHb _ b hb.2
          obtain ⟨e, ks', x', v', g1', g2', g3'⟩ := resR_own _ _ _ _ hr j _ (List.getElem?_eq_getElem hb.1)
          exact ⟨t1, t2, t3, t4, t5, _, _, x', List.getElem?_eq_getElem hb.1, by rw [g1']⟩)
        (fun j j' b h1 h2 => by have := ha.disj _ _ b h1.2 h2.2; omega) (fun hb => by simp at hb)
        (fun j c hj => by
          obtain ⟨e, ks', x', v', g1', g2', g3'⟩ := resR_own _ _ _ _ hr j c hj
          subst g1'
          have hjl : j < (resRoots s.rs y).length := by
            rcases Nat.lt_or_ge j (resRoots s.rs y).length with hh | hh
            · exact hh
            · simp [List.getElem?_eq_none hh] at hj
          show Own w' (.sl e ks') x' _ _
          simp only [List.getD, g2', Option.getD_some]
          rw [Nat.zero_add] at g3'
          exact Own.frame _ _ _ _ _ (fun b hb => ⟨hjl, hb⟩) (fun _ _ _ => rfl) g3')
      refine hk _ _ _ _ (h6.bindV hdn (tv := tv) (wrapRes_rel (resR_rel _ _ _ _ hr (fun i c hi => ?_) fun i v hi => ?_) hw)) (hsz.put _ _)
      · show (match look ((d, (⟨false, resRoots s.rs y⟩ : Rt)) :: st1.rt) d with | some R => R.cells[0 + i]? | none => none) = _
        rw [look_cons, if_pos rfl, Nat.zero_add]
        exact hi
      · simp [Gh.at, List.getD, hi]
  · simp at hp
theorem wsound (hT : TTok P E) (hga : GAok P E) : WSound P E := by
  intro cx Z g st a w o st' h hn hsz hdo hrun
  have hdn : ∀ d, o.dst = some d → Dst cx a d := fun d hd => by
    rw [hd] at hdo
    exact hsz.dst hdo
  have key : WStep P cx E st' a w o := by
    generalize hop : o.op = op at hrun
    generalize hdst : o.dst = dst at hrun
    unfold wop at hrun
    split at hrun
    · obtain ⟨ti, h1, hrun⟩ := Tr.run_ofO hrun
      obtain ⟨ta, h2, hrun⟩ := Tr.run_ofO hrun
      obtain ⟨av, h3, hrun⟩ := Tr.run_ofO hrun
      obtain ⟨tx, h4, hrun⟩ := Tr.run_ofO hrun
      obtain ⟨p, h5, hrun⟩ := Tr.run_ofO hrun
      cases hb : p.2.all st.live && Nat.beq p.2.length ti.ks.length with
      | false => rw [hb] at hrun; simp [Tr.run] at hrun
      | true =>
        rw [hb] at hrun
        simp only [cond_true] at hrun
        simp only [Bool.and_eq_true] at hb
        obtain ⟨s1, h6, hrun⟩ := Tr.run_ofO hrun
        simp only [Tr.run, Option.some.injEq] at hrun
        subst hrun
        exact w_store hT h hn hsz hdst hop h1 h2 h3 h4 h5 hb.1 (beq_eq hb.2) h6
    · obtain ⟨tv, h1, hrun⟩ := Tr.run_ofO hrun
      simp only [Tr.run, Option.some.injEq] at hrun
      subst hrun
      exact w_assign h hn hsz hdst (hdn _ hdst) (.inr hop) h1
    · obtain ⟨tv, h1, hrun⟩ := Tr.run_ofO hrun
      simp only [Tr.run, Option.some.injEq] at hrun
      subst hrun
      exact w_assign h hn hsz hdst (hdn _ hdst) (.inl hop) h1
    · rename_i t x d
      obtain ⟨ti, h1, hrun⟩ := Tr.run_ofO hrun
      obtain ⟨tv, h2, hrun⟩ := Tr.run_ofO hrun
      obtain ⟨p, h3, hrun⟩ := Tr.run_ofO hrun
      cases hb : st.free d && p.2.all st.live && Nat.beq p.2.length ti.ks.length with
      | false => rw [hb] at hrun; simp [Tr.run] at hrun
      | true =>
        rw [hb] at hrun
        simp only [cond_true] at hrun
        simp only [Bool.and_eq_true] at hb
        obtain ⟨s1, h6, hrun⟩ := Tr.run_ofO hrun
        simp only [Tr.run, Option.some.injEq] at hrun
        subst hrun
        exact w_box h hn hsz hdst (hdn _ hdst) hop h2 h3 hb.1.1 hb.1.2 (beq_eq hb.2) h6
    · rename_i c
      split at hrun
      · rename_i x y hcal hargs
        split at hrun
        · rename_i d t t2 ts hts
          obtain ⟨ti, h1, hrun⟩ := Tr.run_ofO hrun
          obtain ⟨te, h2, hrun⟩ := Tr.run_ofO hrun
          obtain ⟨tx, h3, hrun⟩ := Tr.run_ofO hrun
          obtain ⟨ty, h4, hrun⟩ := Tr.run_ofO hrun
          cases hb : E.str t2 || (E.sl t2).isSome with
          | false =>
            rw [hb] at hrun
            simp only [cond_false] at hrun
            cases hb2 : E.i64 t2 && isNilTV tx with
            | false => rw [hb2] at hrun; simp [Tr.run] at hrun
            | true =>
              rw [hb2] at hrun
              simp only [cond_true] at hrun
              simp only [Bool.and_eq_true] at hb2
              obtain ⟨p, h5, hrun⟩ := Tr.run_ofO hrun
              exact w_appendZ hT h hn hsz hdst (hdn _ hdst) hop hcal hargs hts h1 h2 h3 h4 hb2.1 hb2.2 h5 hrun
          | true =>
            rw [hb] at hrun
            simp only [cond_true] at hrun
            refine w_append hT h hn hsz hdst (hdn _ hdst) hop hcal hargs hts h1 h2 h3 h4 ?_ hrun
            simp only [Bool.or_eq_true] at hb
            rcases hb with hb | hb
            · exact .inl hb
            · cases he : E.sl t2 with
              | none => rw [he] at hb; simp at hb
              | some te2 => exact .inr ⟨te2, rfl⟩
        · simp [Tr.run] at hrun
      · rename_i f hcal
        obtain ⟨tf, h1, hrun⟩ := Tr.run_ofO hrun
        split at hrun
        · rename_i gid caps
          obtain ⟨l, h2, hrun⟩ := Tr.run_ofO hrun
          cases hio : anyIo (E.ga gid) with
          | true =>
            rw [hio] at hrun
            exact w_callIO hga h hn hsz (fun d hd => hdn d (hdst.trans hd)) hdst hop hcal h1 h2 hrun
          | false =>
            rw [hio] at hrun
            simp only [cond_false] at hrun
            split at hrun
            · exact w_call hga h hn hsz hdst (hdn _ hdst) hop hcal h1 h2 hrun
            · simp [Tr.run] at hrun
        · simp [Tr.run] at hrun
      · simp [Tr.run] at hrun
    · simp [Tr.run] at hrun
  exact key
end
end Go.Av
namespace Go.Av
def zeroIs : Value → K → Bool
  | .int k n, .int k' => k == k' && n == 0
  | .bool b, .bool => !b
  | .string s, .str => Nat.beq s.size 0
  | .slice none 0 0, .sl _ _ => true
  | _, _ => false
def zerosAre : List Value → List K → Bool
  | [], [] => true
  | v :: vs, k :: ks => zeroIs v k && zerosAre vs ks
  | _, _ => false
theorem zeroIs_eq {v : Value} {k : K} (h : zeroIs v k = true) : v = zV k := by
  unfold zeroIs at h
  split at h
  · simp only [Bool.and_eq_true, beq_iff_eq] at h
    rw [h.1, h.2]; rfl
  · rename_i b
    cases b with
    | false => rfl
    | true => simp at h
  · rename_i s
    have hs : s.size = 0 := beq_eq h
    show Value.string s = .string (mkS [])
    congr 1
    apply ByteArray.ext
    apply Array.ext'
    have : s.data.toList = [] := by
      apply List.length_eq_zero_iff.1
      rw [Array.length_toList]
      exact hs
    rw [this]
    rfl
  · rfl
  · simp at h
theorem zerosAre_eq : ∀ {vs : List Value} {ks : List K}, zerosAre vs ks = true → vs = ks.map zV
  | [], [], _ => rfl
  | v :: vs, k :: ks, h => by
    simp only [zerosAre, Bool.and_eq_true] at h
    rw [zeroIs_eq h.1, zerosAre_eq h.2]
    rfl
  | [], _ :: _, h => by simp [zerosAre] at h
  | _ :: _, [], h => by simp [zerosAre] at h
def fldsOk : List (Nat × Nat) → List Field → Bool
  | [], _ => true
  | (o, t) :: r, f :: fs => Nat.beq f.offset o && Nat.beq f.type t && fldsOk r fs
  | _ :: _, [] => false
theorem fldsOk_get : ∀ {l : List (Nat × Nat)} {fs : List Field}, fldsOk l fs = true → ∀ i o t, fld l i = some (o, t) → ∃ fi, fs[i]? = some fi ∧ fi.offset = o ∧ fi.type = t
  | [], fs, h, i, o, t, hf => by simp [fld] at hf
  | (o0, t0) :: r, f :: fs, h, 0, o, t, hf => by
    simp only [fldsOk, Bool.and_eq_true] at h
    simp only [fld, Option.some.injEq, Prod.mk.injEq] at hf
    exact ⟨f, rfl, (beq_eq h.1.1).trans hf.1, (beq_eq h.1.2).trans hf.2⟩
  | (o0, t0) :: r, f :: fs, h, i + 1, o, t, hf => by
    simp only [fldsOk, Bool.and_eq_true] at h
    exact fldsOk_get h.2 i o t hf
  | _ :: _, [], h, _, _, _, _ => by simp [fldsOk] at h
def sizeNZ (P : Program) (f : Field) : Bool := match P.info? f.type with | some i => Nat.blt 0 i.size | none => false
def descIs (P : Program) (ti : TI) : TypeDesc → Bool
  | .struct fs => ti.agg && fldsOk ti.flds fs.toList && fs.toList.all (sizeNZ P)
  | .slice e => !ti.agg && (match ti.ks with | [.sl e' _] => Nat.beq e' e && Nat.beq ti.elem e | _ => false)
  | .int k => !ti.agg && (match ti.ks with | [.int k'] => k' == k | _ => false)
  | .bool => !ti.agg && (match ti.ks with | [.bool] => true | _ => false)
  | .string => !ti.agg && (match ti.ks with | [.str] => true | _ => false)
  | _ => false
def tiIs (P : Program) (t : Nat) (ti : TI) : Bool := match P.info? t, P.underlying t with
  | some i, some d => Nat.beq i.size ti.ks.length && Nat.beq i.bytes ti.bytes && (match i.zero with | some z => zerosAre z.cells.toList ti.ks | none => false) && descIs P ti d
  | _, _ => false
theorem descIs_ok {P : Program} {ti : TI} {d : TypeDesc} (h : descIs P ti d = true) : descOk P ti d := by
  cases d with
  | struct fs =>
    simp only [descIs, Bool.and_eq_true] at h
    refine ⟨h.1.1, fun f o u hf => ?_, fun fi hfi => ?_⟩
    · obtain ⟨fi, h1, h2⟩ := fldsOk_get h.1.2 f o u hf
      exact ⟨fi, by rw [← Array.getElem?_toList]; exact h1, h2⟩
    · have := List.all_eq_true.1 h.2 fi hfi
      unfold sizeNZ at this
      cases hi : P.info? fi.type with
      | none => rw [hi] at this; simp at this
      | some i => rw [hi] at this; exact ⟨i, rfl, Nat.ne_of_gt (Nat.lt_of_succ_le (Nat.le_of_ble_eq_true this))⟩
  | slice e =>
    simp only [descIs, Bool.and_eq_true, Bool.not_eq_true'] at h
    obtain ⟨h1, h2⟩ := h
    split at h2
    · rename_i e' ks hk
      simp only [Bool.and_eq_true] at h2
      have e1 := beq_eq h2.1
      subst e1
      exact ⟨h1, ks, hk, beq_eq h2.2⟩
    · simp at h2
  | int k =>
    simp only [descIs, Bool.and_eq_true, Bool.not_eq_true'] at h
    obtain ⟨h1, h2⟩ := h
    split at h2
    · rename_i k' hk
      have : k' = k := by simpa using h2
      subst this
      exact ⟨h1, hk⟩
    · simp at h2
  | bool =>
    simp only [descIs, Bool.and_eq_true, Bool.not_eq_true'] at h
    obtain ⟨h1, h2⟩ := h
    split at h2
    · rename_i hk; exact ⟨h1, hk⟩
    · simp at h2
  | string =>
    simp only [descIs, Bool.and_eq_true, Bool.not_eq_true'] at h
    obtain ⟨h1, h2⟩ := h
    split at h2
    · rename_i hk; exact ⟨h1, hk⟩
    · simp at h2
  | _ => simp [descIs] at h
theorem tiIs_ok {P : Program} {t : Nat} {ti : TI} (h : tiIs P t ti = true) : TIok P t ti := by
  unfold tiIs at h
  split at h
  · rename_i i d hi hd
    simp only [Bool.and_eq_true] at h
    obtain ⟨⟨⟨h1, h2⟩, h3⟩, h4⟩ := h
    refine ⟨⟨i, hi, beq_eq h1, beq_eq h2, ?_⟩, d, hd, descIs_ok h4⟩
    split at h3
    · rename_i z hz
      exact ⟨z, hz, zerosAre_eq h3⟩
    · simp at h3
  · simp at h
def ttIs (P : Program) : List (Nat × TI) → Bool
  | [] => true
  | (t, ti) :: r => tiIs P t ti && ttIs P r
theorem ttIs_mem {P : Program} : ∀ {l : List (Nat × TI)}, ttIs P l = true → ∀ t ti, (t, ti) ∈ l → TIok P t ti
  | [], _, _, _, h => by simp at h
  | (t0, ti0) :: r, h, t, ti, hm => by
    simp only [ttIs, Bool.and_eq_true] at h
    rcases List.mem_cons.1 hm with hm | hm
    · cases hm; exact tiIs_ok h.1
    · exact ttIs_mem h.2 t ti hm
theorem ttok_of {P : Program} {E : En} (h : ttIs P E.tt = true) : TTok P E := fun t ti ht => ttIs_mem h t ti (look_mem _ _ _ ht)
end Go.Av
namespace Go.Av
def loFree (lo : Nat → Bool) : Code → Bool
  | .seq a b => loFree lo a && loFree lo b
  | .cond _ a b => loFree lo a && loFree lo b
  | .block id c => !lo id && loFree lo c
  | _ => true
theorem loopsOK_free {P : Program} {E : En} (hrg : ∀ id, E.rg id = none := by intro _; rfl) : ∀ (c : Code), loFree (fun id => (E.lo id).isSome) c = true → LoopsOK P E c
  | .seq a b, h => by
    simp only [loFree, Bool.and_eq_true] at h
    exact ⟨loopsOK_free hrg a h.1, loopsOK_free hrg b h.2⟩
  | .cond _ a b, h => by
    simp only [loFree, Bool.and_eq_true] at h
    exact ⟨loopsOK_free hrg a h.1, loopsOK_free hrg b h.2⟩
  | .block id c, h => by
    simp only [loFree, Bool.and_eq_true, Bool.not_eq_true'] at h
    refine ⟨fun L hL => ?_, fun _ => loopsOK_free hrg c h.2⟩
    rw [hL] at h
    simp at h
  | .skip, _ => trivial
  | .region id _ _, _ => fun F hF => by rw [hrg id] at hF; simp at hF
  | .loop _, _ => trivial
  | .rangeFunc _ _ _ _, _ => trivial
  | .exit _, _ => trivial
  | .scope _, _ => trivial
  | .label _, _ => trivial
  | .goto _, _ => trivial
  | .ret, _ => trivial
  | .refuse _, _ => trivial
def rgRegs (rg : Nat → Bool) (lo : Nat → Bool) : Code → List (Nat × Code)
  | .seq a b => rgRegs rg lo a ++ rgRegs rg lo b
  | .cond _ a b => rgRegs rg lo a ++ rgRegs rg lo b
  | .block id c => bif lo id then [] else rgRegs rg lo c
  | .region id ops dr => bif rg id then [(id, .region id ops dr)] else []
  | _ => []
def loBlocks (lo : Nat → Bool) : Code → List (Nat × Code)
  | .seq a b => loBlocks lo a ++ loBlocks lo b
  | .cond _ a b => loBlocks lo a ++ loBlocks lo b
  | .block id c => bif lo id then [(id, c)] else loBlocks lo c
  | _ => []
theorem loopsOK_of {P : Program} {E : En} : ∀ (c : Code), (∀ id b F, (id, b) ∈ rgRegs (fun id => (E.rg id).isSome) (fun id => (E.lo id).isSome) c → E.rg id = some F → RegSem P E b F) → (∀ id b L, (id, b) ∈ loBlocks (fun id => (E.lo id).isSome) c → E.lo id = some L → LoopSem P E id b L) → LoopsOK P E c
  | .seq a b, hr, h => ⟨loopsOK_of a (fun id b F hm => hr id b F (List.mem_append_left _ hm)) fun id b L hm => h id b L (List.mem_append_left _ hm), loopsOK_of b (fun id b F hm => hr id b F (List.mem_append_right _ hm)) fun id b L hm => h id b L (List.mem_append_right _ hm)⟩
  | .cond _ a b, hr, h => ⟨loopsOK_of a (fun id b F hm => hr id b F (List.mem_append_left _ hm)) fun id b L hm => h id b L (List.mem_append_left _ hm), loopsOK_of b (fun id b F hm => hr id b F (List.mem_append_right _ hm)) fun id b L hm => h id b L (List.mem_append_right _ hm)⟩
  | .block id c, hr, h => by
    refine ⟨fun L hL => h id c L ?_ hL, fun hn => loopsOK_of c (fun id' b F hm hF => hr id' b F (by simp only [rgRegs, hn, Option.isSome_none, cond_false]; exact hm) hF) fun id' b L hm hL => h id' b L ?_ hL⟩
    · simp [loBlocks, hL]
    · simp only [loBlocks, hn, Option.isSome_none, cond_false]
      exact hm
  | .skip, _, _ => trivial
  | .region id ops dr, hr, _ => fun F hF => hr id _ F (by simp [rgRegs, hF]) hF
  | .loop _, _, _ => trivial
  | .rangeFunc _ _ _ _, _, _ => trivial
  | .exit _, _, _ => trivial
  | .scope _, _, _ => trivial
  | .label _, _, _ => trivial
  | .goto _, _, _ => trivial
  | .ret, _, _ => trivial
  | .refuse _, _, _ => trivial
end Go.Av
namespace Go.Av
section
variable {X Y : Type} (step : X → Option (Sum X Y))
theorem iter_mono {n m : Nat} {x : X} {y : Y} (h : iter step n x = some y) (hm : n ≤ m) : iter step m x = some y := by
  induction n generalizing m x with
  | zero => simp [iter] at h
  | succ n ih =>
    obtain ⟨k, rfl⟩ : ∃ k, m = k + 1 := ⟨m - 1, by omega⟩
    unfold iter at h ⊢
    split at h
    · rename_i x' hx
      exact ih h (by omega)
    · rename_i z hx
      exact h
    · simp at h
noncomputable def loopF (x : X) : Option Y := open Classical in if h : ∃ n y, iter step n x = some y then some (Classical.choose (Classical.choose_spec h)) else none
theorem loopF_some {x : X} {y : Y} (h : loopF step x = some y) : ∃ n, iter step n x = some y := by
  unfold loopF at h
  split at h
  · rename_i hh
    simp only [Option.some.injEq] at h
    subst h
    exact ⟨_, Classical.choose_spec (Classical.choose_spec hh)⟩
  · simp at h
theorem loopF_of {n : Nat} {x : X} {y : Y} (h : iter step n x = some y) : loopF step x = some y := by
  have hh : ∃ n y, iter step n x = some y := ⟨n, y, h⟩
  unfold loopF
  rw [dif_pos hh]
  have h1 := Classical.choose_spec (Classical.choose_spec hh)
  have e1 := iter_mono step h (Nat.le_max_left n (Classical.choose hh))
  have e2 := iter_mono step h1 (Nat.le_max_right n (Classical.choose hh))
  rw [e1] at e2
  exact e2.symm
theorem loopF_step {x x' : X} {y : Y} (h : step x = some (.inl x')) (h' : loopF step x' = some y) : loopF step x = some y := by
  obtain ⟨n, hn⟩ := loopF_some step h'
  refine loopF_of step (n := n + 1) ?_
  unfold iter
  rw [h]
  exact hn
theorem loopF_end {x : X} {y : Y} (h : step x = some (.inr y)) : loopF step x = some y := by
  refine loopF_of step (n := 1) ?_
  unfold iter
  rw [h]
end
end Go.Av
namespace Go.Av
open Go.RowKit (Below)
def addW (k : IntKind) (a b : Int) : Int := k.wrap (a + b)
def subW (k : IntKind) (a b : Int) : Int := k.wrap (a - b)
def mulW (k : IntKind) (a b : Int) : Int := k.wrap (a * b)
def quoW (k : IntKind) (a b : Int) : Int := k.wrap (a.tdiv b)
def remI (a b : Int) : Int := a.tmod b
def cvtW (k : IntKind) (a : Int) : Int := k.wrap a
def lenI {α : Type} (xs : List α) : Int := (xs.length : Int)
def inB {α : Type} (i : Int) (xs : List α) : Bool := idxOk i xs.length
def cutB {α : Type} (lo hi : Int) (xs : List α) : Bool := cutOk lo hi xs.length
def cutB0 (lo hi : Int) : Bool := cutOk lo hi 0
def gt {α : Type} (d : α) (xs : List α) (i : Int) : α := xs.getD i.toNat d
def stI {α : Type} (xs : List α) (i : Int) (x : α) : List α := List.set xs i.toNat x
def tkI {α : Type} (xs : List α) (n : Int) : List α := List.take n.toNat xs
def apL {α : Type} (xs ys : List α) : List α := xs ++ ys
def apS (s t : List UInt8) : List UInt8 := s ++ t
def fitB {α : Type} (bytes : Nat) (xs ys : List α) : Bool := Nat.ble ((xs.length + ys.length) * bytes) big
def fitS (s t : List UInt8) : Bool := Nat.ble (s.length + t.length) big
def ltS (s t : List UInt8) : Bool := Op.bytesLess s t
def leS (s t : List UInt8) : Bool := Op.bytesLess s t || eqS s t
def bytI (s : List UInt8) (i : Int) : Int := bytAt s i.toNat
def repI {α : Type} (d : α) (n : Int) : List α := List.replicate n.toNat d
def mkB (bytes : Nat) (n : Int) : Bool := leI 0 n && (leI (n * bytes) big && Nat.blt 0 bytes)
def bodyOf (f : Func) : Code := match f.body with | some c => c | none => .skip
def loopIn : Code → Code
  | .loop b => b
  | _ => .skip
def loopOf? (id : Nat) : Code → Option Code
  | .seq a b => match loopOf? id a with | some c => some c | none => loopOf? id b
  | .cond _ a b => match loopOf? id a with | some c => some c | none => loopOf? id b
  | .block i c => bif Nat.beq i id then some (loopIn c) else loopOf? id c
  | .loop b => loopOf? id b
  | _ => none
def loopOf (id : Nat) (c : Code) : Code := (loopOf? id c).getD .skip
def gaOf : List (Nat × Su) → Nat → List Su
  | [], _ => []
  | (g, s) :: r, f => bif Nat.beq g f then s :: gaOf r f else gaOf r f
def AllOk (P : Program) : List (Nat × Su) → Prop
  | [] => True
  | (g, s) :: r => SuOK P g s ∧ AllOk P r
theorem gaOf_mem {P : Program} : ∀ (l : List (Nat × Su)) (f : Nat) (s : Su), AllOk P l → s ∈ gaOf l f → SuOK P f s
  | [], _, _, _, h => by simp [gaOf] at h
  | (g, s0) :: r, f, s, hl, h => by
    unfold gaOf at h
    cases hb : Nat.beq g f with
    | false => rw [hb] at h; exact gaOf_mem r f s hl.2 h
    | true =>
      rw [hb] at h
      have := beq_eq hb
      subst this
      rcases List.mem_cons.1 h with h | h
      · subst h; exact hl.1
      · exact gaOf_mem r g s hl.2 h
theorem gaok_of {P : Program} {E : En} {l : List (Nat × Su)} (hl : AllOk P l) (h : E.ga = gaOf l := by rfl) : GAok P E := fun f s hs => by
  rw [h] at hs
  exact gaOf_mem l f s hl hs
theorem hTT {P : Program} {E E' : En} (h : TTok P E) (e : E'.tt = E.tt := by rfl) : TTok P E' := fun t ti ht => h t ti (by
  unfold En.ti at ht ⊢
  rw [← e]; exact ht)
def AllSem (P : Program) (E : En) : List (Nat × Code) → Prop
  | [] => True
  | (id, b) :: r => (∀ L, E.lo id = some L → LoopSem P E id b L) ∧ AllSem P E r
theorem allSem_mem {P : Program} {E : En} : ∀ (l : List (Nat × Code)) (id : Nat) (b : Code) (L : Lo E.ρ), AllSem P E l → (id, b) ∈ l → E.lo id = some L → LoopSem P E id b L
  | [], _, _, _, _, h, _ => by simp at h
  | (i, c) :: r, id, b, L, hl, h, hL => by
    rcases List.mem_cons.1 h with h | h
    · cases h; exact hl.1 L hL
    · exact allSem_mem r id b L hl.2 h hL
def AllReg (P : Program) (E : En) : List (Nat × Code) → Prop
  | [] => True
  | (id, b) :: r => (∀ F, E.rg id = some F → RegSem P E b F) ∧ AllReg P E r
theorem allReg_mem {P : Program} {E : En} : ∀ (l : List (Nat × Code)) (id : Nat) (b : Code) (F : St → Tr St), AllReg P E l → (id, b) ∈ l → E.rg id = some F → RegSem P E b F
  | [], _, _, _, _, h, _ => by simp at h
  | (i, c) :: r, id, b, F, hl, h, hF => by
    rcases List.mem_cons.1 h with h | h
    · cases h; exact hl.1 F hF
    · exact allReg_mem r id b F hl.2 h hF
theorem regL {P : Program} {E : En} {id : Nat} {b : Code} {F0 : St → Tr St} (h : E.rg id = some F0) (hs : RegSem P E b F0) : ∀ F, E.rg id = some F → RegSem P E b F := fun F hF => by
  rw [h] at hF
  cases hF
  exact hs
theorem loopsOK_all {P : Program} {E : En} {c : Code} (bs : List (Nat × Code)) (h : loBlocks (fun id => (E.lo id).isSome) c = bs) (hs : AllSem P E bs) (hrg : ∀ id, E.rg id = none := by intro _; rfl) : LoopsOK P E c :=
  loopsOK_of c (fun id b F hm hF => by rw [hrg id] at hF; simp at hF) fun id b L hm hL => allSem_mem bs id b L hs (h ▸ hm) hL
theorem loopsOK_reg {P : Program} {E : En} {c : Code} (bs : List (Nat × Code)) (h : loBlocks (fun id => (E.lo id).isSome) c = bs) (hs : AllSem P E bs) (rs : List (Nat × Code)) (hr : rgRegs (fun id => (E.rg id).isSome) (fun id => (E.lo id).isSome) c = rs) (hrs : AllReg P E rs) : LoopsOK P E c :=
  loopsOK_of c (fun id b F hm hF => allReg_mem rs id b F hrs (hr ▸ hm) hF) fun id b L hm hL => allSem_mem bs id b L hs (h ▸ hm) hL
theorem semL {P : Program} {E : En} {id : Nat} {b : Code} {L0 : Lo E.ρ} (h : E.lo id = some L0) (hs : LoopSem P E id b L0) : ∀ L, E.lo id = some L → LoopSem P E id b L := fun L hL => by
  rw [h] at hL
  cases hL
  exact hs
theorem sem_of {P : Program} {E : En} (hT : TTok P E) (hga : GAok P E) (hm : P.follows .mixedOrders = true) {id : Nat} {σ : List SE} {body : Code} {step : SigT σ → Option (Sum (SigT σ) (Sum (SigT σ) (SigT E.ρ)))}
    (ht : ∀ x, (roundT E id σ body x).run = step x) (hl : LoopsOK P E body) : LoopSem P E id (.loop body) ⟨σ, fun x => loopF step x⟩ :=
  loop_sound hT hga (wsound hT hga) hm (decOK E) hl fun x r h => by
    obtain ⟨n, hn⟩ := loopF_some step h
    have e : (fun x => (roundT E id σ body x).run) = step := funext ht
    exact ⟨n, by rw [e]; exact hn⟩
theorem fn_ok {P : Program} {E : En} (hT : TTok P E) (hga : GAok P E) (hm : P.follows .mixedOrders = true) {f : Nat} {fn : Func} {c : Code} (hf : P.funcs[f]? = some fn) (hname : (fn.name == "runtime.NumGoroutine") = false) (hb : fn.body = some c) (hnt : E.nt = fn.ntmps) (hl : LoopsOK P E c)
    {s : Su} (hs : ∀ x y, s.ans x = some y → ∃ z, (hasIo s.ps = true → z = y.1) ∧ (fnT E c fn.results.toList s.ps s.rs s.fresh x).run = some (z, y.2)) : SuOK P f s :=
  fn_sound hT hga (wsound hT hga) hm hf hname hb hnt hl hs
end Go.Av
namespace Go.Av
def codeL : Code → Code | .seq a _ => a | c => c
def codeR : Code → Code | .seq _ b => b | c => c
def regId : Code → Nat | .region i _ _ => i | _ => 0
def opAt (c : Code) (i : Nat) : Oper := match c with | .region _ ops _ => ops.getD i default | _ => default
end Go.Av
namespace Go.Av
def regOf? (id : Nat) : Code → Option Code
  | .seq a b => match regOf? id a with | some c => some c | none => regOf? id b
  | .cond _ a b => match regOf? id a with | some c => some c | none => regOf? id b
  | .block _ c => regOf? id c
  | .loop b => regOf? id b
  | .region i ops dr => bif Nat.beq i id then some (.region i ops dr) else none
  | _ => none
def regOf (id : Nat) (c : Code) : Code := (regOf? id c).getD .skip
def callOf (o : Oper) : Call := match o.op with | .call c => c | _ => ⟨.builtin .len, #[], #[]⟩
def mzB (bytes : Nat) (n : Int) : Bool := leI 0 n && leI (n * bytes) big
end Go.Av
namespace Go.Av
open Go.RowKit (Below)
section
variable {P : Program} {E : En} {cx : Cx P}
theorem nil_region (hT : TTok P E) {st : St} {a : Act} {w : World} (h : Good cx E st a w) {id t0 t3 t4 ty ty' : Nat} {e e' by' : Nat} {fl : List (Nat × Nat)} {ks : List K} {xs : T (.sl e ks)} {o1 o2 : Oper}
    (d1 : o1.dst = some t3) (p1 : o1.op = .move (.tmp t0)) (g1 : o1.guard = none) (d2 : o2.dst = some t4) (p2 : o2.op = .binOp .eql ty (.tmp t3) (.const (.slice none 0 0)) ty') (g2 : o2.guard = none)
    (b3 : E.dB t3 = true) (b4 : E.dB t4 = true) (hti : E.ti ty = some ⟨false, [.sl e ks], e', by', fl⟩) (h0 : st.tv t0 = some (.v (.d (.sl e ks) xs))) :
    (Code.region id #[o1, o2] false).wp P (fun ex a' w' => ex = .normal ∧ ∃ b : Bool, (b = true → els xs = []) ∧ Good cx E ((st.bindT t3 (.v (.d (.sl e ks) xs), none)).bindT t4 (.v (.d .bool b), none)) a' w') a w := by
  obtain ⟨hn, hsz, Z, g, hr⟩ := h
  refine wp_region ?_
  show wpOps P #[o1, o2] _ [0, 1] a w
  rw [wpOps_cons]
  refine wpOp_wop (i := 0) rfl g1 ?_
  obtain ⟨hn1, hw1⟩ := w_assign hr hn hsz d1 (hsz.dst b3) (.inl p1) (tv := .v (.d (.sl e ks) xs)) h0
  refine hw1 _ _ fun Z1 g1' a1 w1 hr1 hsz1 => ?_
  rw [wpOps_cons]
  refine wpOp_wop (i := 1) rfl g2 ?_
  have ht3 : look (st.bindT t3 (.v (.d (.sl e ks) xs), none)).tm t3 = some (.v (.d (.sl e ks) xs)) := by rw [bindT_tm, if_pos rfl]
  have hv := (hr1.tm t3 _ ht3).2
  obtain ⟨a0, c0, e1, e2, e3, e4, _⟩ := (show RO Z1 w1 (.sl e ks) xs (a1.tmps.getD t3 undef) from hv)
  obtain ⟨dd, hu, hdd⟩ := (hT ty _ hti).desc
  have hu' : ∃ q, P.underlying ty = some (.slice q) := by
    cases dd <;> simp [descOk] at hdd
    exact ⟨_, hu⟩
  obtain ⟨q, hu'⟩ := hu'
  have hrun : (execOp a1.eval o2).run P w1 = .ok (.value (.bool a0.isNone)) w1 := by
    have hev : a1.eval (.tmp t3) = .slice a0 (els xs).length c0 := e1
    have hg : (eqGuard .eql ty (.tmp t3) (.const (.slice none 0 0)) (.slice a0 (els xs).length c0) (.slice none 0 0)).run P w1 = .ok () w1 := by
      unfold eqGuard; simp
    have he : (Op.equal ty (.slice a0 (els xs).length c0) (.slice none 0 0)).run P w1 = .ok a0.isNone w1 := by
      show (Op.equalIn (9999 + 1) ty _ _).run P w1 = _
      unfold Op.equalIn
      cases a0 <;> simp [run_underlying hu']
    obtain ⟨v, e1', e2'⟩ : ∃ v, ((do eqGuard .eql ty (.tmp t3) (.const (.slice none 0 0)) (a1.eval (.tmp t3)) (a1.eval (.const (.slice none 0 0))); binOp .eql ty (a1.eval (.tmp t3)) (a1.eval (.const (.slice none 0 0)))) : Sem Value).run P w1 = .ok v w1 ∧ v = .bool a0.isNone := by
      have hev2 : a1.eval (.const (.slice none 0 0)) = .slice none 0 0 := rfl
      rw [hev, hev2]
      exact ⟨.bool a0.isNone, by simp [hg, binOp, he], rfl⟩
    subst e2'
    simp only [execOp, p2, Sem.run_bind, e1', Result.andThen_ok]
    rfl
  have hq := fin_val (o := o2) hr1 d2 (hsz1.dst b4) hrun (tv := .v (.d .bool a0.isNone)) (show RO Z1 w1 .bool _ _ from rfl)
  refine hq _ _ fun Z2 g2' v2 w2 hr2 => ?_
  refine ⟨rfl, a0.isNone, fun hb => ?_, fun t tv ht => ?_, hsz1.put _ _, Z2, g2', hr2⟩
  · have : a0 = none := by cases a0 <;> simp_all
    have := e4 this
    exact List.length_eq_zero_iff.1 (by omega)
  · rw [bindT_tm] at ht
    split at ht
    · simp only [Option.some.injEq] at ht; subst ht; exact fun h => h
    · exact hn1 t tv ht
theorem fn_nil (hT : TTok P E) (hga : GAok P E) (hm : P.follows .mixedOrders = true) {f : Nat} {fn : Func} {c0 cc c3 : Code} {id : Nat} {o1 o2 : Oper} (hf : P.funcs[f]? = some fn) (hname : (fn.name == "runtime.NumGoroutine") = false) (hb : fn.body = some (.seq c0 (.seq (.seq (.region id #[o1, o2] false) cc) c3))) (hnt : E.nt = fn.ntmps)
    (hl0 : LoopsOK P E c0) (hlc : LoopsOK P E cc) (hl3 : LoopsOK P E c3) {t0 t3 t4 ty ty' e e' by' : Nat} {fl : List (Nat × Nat)} {ks : List K}
    (d1 : o1.dst = some t3) (p1 : o1.op = .move (.tmp t0)) (g1 : o1.guard = none) (d2 : o2.dst = some t4) (p2 : o2.op = .binOp .eql ty (.tmp t3) (.const (.slice none 0 0)) ty') (g2 : o2.guard = none)
    (b3 : E.dB t3 = true) (b4 : E.dB t4 = true) (hti : E.ti ty = some ⟨false, [.sl e ks], e', by', fl⟩)
    {s : Su} (st1 : PT s.ps → St) (xs : PT s.ps → T (.sl e ks)) (h0 : ∀ x, (codeT E c0 (start s.ps x)).run = some (.nrm (st1 x))) (h1 : ∀ x, (st1 x).tv t0 = some (.v (.d (.sl e ks) (xs x))))
    (hs : ∀ x y, s.ans x = some y → ∀ b, (b = true → els (xs x) = []) → ∃ z, (hasIo s.ps = true → z = y.1) ∧ ((codeT E (.seq cc c3) (((st1 x).bindT t3 (.v (.d (.sl e ks) (xs x)), none)).bindT t4 (.v (.d .bool b), none))).bind (finT E fn.results.toList s.ps s.rs s.fresh)).run = some (z, y.2)) : SuOK P f s := by
  have hW := wsound hT hga
  refine fn_sound2 hT hf hname hb hnt fun x y hy => ?_
  refine ⟨y.1, fun _ => rfl, fun cx a w hg => ?_⟩
  refine wp_seq (wp_mono (codeT_sound hT hga hW hm (decOK E) c0 _ _ _ _ hl0 hg (h0 x)) fun ex a1 w1 hq => ?_)
  cases ex <;> first | exact hq.elim | skip
  refine wp_seq (wp_seq (wp_mono (nil_region hT hq d1 p1 g1 d2 p2 g2 b3 b4 hti (h1 x)) fun ex a2 w2 hq2 => ?_))
  obtain ⟨rfl, b, hb1, hg2⟩ := hq2
  obtain ⟨z, hz, hrun⟩ := hs x y hy b hb1
  rw [Tr.run_bind] at hrun
  cases ho : (codeT E (.seq cc c3) (((st1 x).bindT t3 (.v (.d (.sl e ks) (xs x)), none)).bindT t4 (.v (.d .bool b), none))).run with
  | none => rw [ho] at hrun; simp at hrun
  | some ou =>
    rw [ho] at hrun
    simp only [Option.bind_some] at hrun
    have hfin : (finT E fn.results.toList s.ps s.rs s.fresh ou).run = some (y.1, y.2) := by
      cases hh : hasIo s.ps with
      | true => rw [← hz hh]; exact hrun
      | false => rw [io_eq _ hh y.1 z]; exact hrun
    simp only [codeT] at ho
    rw [Tr.run_bind] at ho
    cases hc : (codeT E cc (((st1 x).bindT t3 (.v (.d (.sl e ks) (xs x)), none)).bindT t4 (.v (.d .bool b), none))).run with
    | none => rw [hc] at ho; simp at ho
    | some oc =>
      rw [hc] at ho
      simp only [Option.bind_some] at ho
      refine wp_mono (codeT_sound hT hga hW hm (decOK E) cc _ _ _ _ hlc hg2 hc) fun ex a3 w3 hq3 => ?_
      cases oc with
      | nrm st' =>
        cases ex <;> first | exact hq3.elim | skip
        exact wp_mono (codeT_sound hT hga hW hm (decOK E) c3 _ _ _ _ hl3 hq3 ho) fun ex a4 w4 hq4 => ⟨ou, hq4, hfin⟩
      | ext id' st' =>
        simp only [Tr.run, Option.some.injEq] at ho
        subst ho
        cases ex <;> first | exact hq3.elim | exact ⟨_, hq3, hfin⟩
      | ret st' =>
        simp only [Tr.run, Option.some.injEq] at ho
        subst ho
        cases ex <;> first | exact hq3.elim | exact ⟨_, hq3, hfin⟩
end
end Go.Av
namespace Go.Av
open Go.RowKit (Below)
def clr {α : Type} (d : α) (xs : List α) (n : Nat) : List α := xs.take n ++ List.replicate (xs.length - n) d
theorem clr_len {α : Type} (d : α) (xs : List α) (n : Nat) (h : n ≤ xs.length) : (clr d xs n).length = xs.length := by simp [clr]; omega
theorem clr_get {α : Type} (d : α) (xs : List α) (n : Nat) (h : n ≤ xs.length) (i : Nat) (x : α) (hx : (clr d xs n)[i]? = some x) : (i < n ∧ xs[i]? = some x) ∨ (n ≤ i ∧ i < xs.length ∧ x = d) := by
  unfold clr at hx
  rw [List.getElem?_append] at hx
  simp only [List.length_take, Nat.min_eq_left h] at hx
  split at hx
  · rename_i hi
    rw [List.getElem?_take] at hx
    rw [if_pos hi] at hx
    exact .inl ⟨hi, hx⟩
  · rename_i hi
    rw [List.getElem?_replicate] at hx
    split at hx
    · rename_i h2
      simp only [Option.some.injEq] at hx
      exact .inr ⟨by omega, by omega, hx.symm⟩
    · simp at hx
theorem setCells_heap2 : ∀ (vs : List Value) (b o : Nat) (w : World) (i : Nat), (w.setCells b o vs).heap[i]? = if b = i then (w.heap[i]?).map (fun | .cells c el fr => .cells (setFrom c o vs) el fr | x => x) else w.heap[i]?
  | [], b, o, w, i => by
    show w.heap[i]? = _
    split
    · cases h : w.heap[i]? with
      | none => rfl
      | some x => cases x <;> rfl
    · rfl
  | v :: r, b, o, w, i => by
    show ((w.setCell ⟨b, o, none⟩ v).setCells b (o + 1) r).heap[i]? = _
    rw [setCells_heap2 r b (o + 1) _ i]
    simp only [setCell_heap]
    by_cases e : b = i
    · rw [if_pos e, if_pos e, if_pos e]
      cases h : w.heap[i]? with
      | none => rfl
      | some x => cases x <;> rfl
    · rw [if_neg e, if_neg e, if_neg e]
theorem setCells_os : ∀ (vs : List Value) (b o : Nat) (w : World), (w.setCells b o vs).os = w.os ∧ (w.setCells b o vs).tape = w.tape ∧ (w.setCells b o vs).output = w.output ∧ (w.setCells b o vs).heap.size = w.heap.size
  | [], _, _, _ => ⟨rfl, rfl, rfl, rfl⟩
  | v :: r, b, o, w => by
    obtain ⟨h1, h2, h3, h4⟩ := setCells_os r b (o + 1) (w.setCell ⟨b, o, none⟩ v)
    exact ⟨h1, h2, h3, h4.trans (by simp [World.setCell])⟩
theorem zeroCells_eq {z : Array Value} {ks : List K} (hz : z.toList = ks.map zV) (n : Nat) (j : Nat) (hj : j < n * ks.length) : (Builtin.zeroCells z n).toList[j]? = (ks.map zV)[j % ks.length]? := by
  have hl : z.size = ks.length := by rw [← Array.length_toList, hz]; simp
  have hpos : 0 < ks.length := by
    rcases Nat.eq_zero_or_pos ks.length with h | h
    · rw [h] at hj; simp at hj
    · exact h
  unfold Builtin.zeroCells
  rw [Array.getElem?_toList]
  simp only [Array.getElem?_map, hl]
  have : (Array.range (n * ks.length))[j]? = some j := by simp [hj]
  rw [this]
  have hm : j % ks.length < ks.length := Nat.mod_lt _ hpos
  simp only [Option.map_some]
  rw [← hz, Array.getElem?_toList]
  rw [Array.getElem!_eq_getD]
  simp [Array.getD_eq_getD_getElem?, hl, hm]
section
variable {P : Program} {E : En} {cx : Cx P} {w w' : World}
theorem own_clear {e : TypeId} {ks : List K} {xs : T (.sl e ks)} {b o l cap : Nat} {F : Nat → Prop} (h : Own w (.sl e ks) xs (.slice (some ⟨b, o, none⟩) l cap) F) {n : Nat} (hn : n ≤ (els xs).length) {zs : List Value} (hz : ∀ j, j < ((els xs).length - n) * ks.length → zs[j]? = (ks.map zV)[j % ks.length]?) (hzl : zs.length = ((els xs).length - n) * ks.length) (hF : ∀ q, F q → q < w.heap.size) :
    F b ∧ (∃ cs el fr, w.heap[b]? = some (.cells cs el fr) ∧ (∀ q, q < cs.size → ¬ (fr.1 ≤ q ∧ q < fr.2)) ∧ o + n * ks.length + zs.length ≤ cs.size) ∧ Own (w.setCells b (o + n * ks.length) zs) (.sl e ks) (clr (dfls ks) (els xs) n) (.slice (some ⟨b, o, none⟩) l cap) F := by
  obtain ⟨a', c0, h1, h2, h3, h4, h5⟩ := h
  simp only [Value.slice.injEq] at h1
  obtain ⟨rfl, rfl, rfl⟩ := h1
  obtain ⟨b', o', cs, el, fr, g1, g2, g3, g4, g5, G, g6, g7, g8⟩ := h5 _ rfl
  simp only [Addr.mk.injEq, and_true] at g1
  obtain ⟨rfl, rfl⟩ := g1
  have hlen : (els (e := e) (ks := ks) (clr (dfls ks) (els xs) n)).length = (els xs).length := clr_len _ _ _ hn
  have hfit : o + n * ks.length + zs.length ≤ cs.size := by
    rw [hzl, Nat.sub_mul]
    have h2' : (els xs).length * ks.length ≤ cap * ks.length := Nat.mul_le_mul_right _ h2
    have h3' : n * ks.length ≤ (els xs).length * ks.length := Nat.mul_le_mul_right _ hn
    omega
  refine ⟨g2, ⟨cs, el, fr, g3, fun q hq => g4 q (Nat.lt_add_right _ hq), hfit⟩, _, cap, by rw [hlen], by rw [hlen]; exact h2, by rw [hlen]; exact h3, h4, fun a'' ha'' => ?_⟩
  simp only [Option.some.injEq] at ha''
  subst ha''
  refine ⟨b, o, setFrom cs (o + n * ks.length) zs, el, fr, rfl, g2, ?_, ?_, ?_, fun i j q => i < n ∧ G i j q, fun i j q hq => g6 i j q hq.2, fun i j i' j' q hq hq' => g7 i j i' j' q hq.2 hq'.2, fun i x hx => ?_⟩
  · rw [setCells_heap2, if_pos rfl, g3]; rfl
  · intro q hq; rw [setFrom_size] at hq; exact g4 q hq
  · rw [setFrom_size]; exact g5
  · rcases clr_get _ _ _ hn i x hx with ⟨hi, hx'⟩ | ⟨hi, hil, rfl⟩
    ·
      have hrow := g8 i x hx'
      have hlt : o + i * ks.length + ks.length ≤ o + n * ks.length := by
        have : (i + 1) * ks.length ≤ n * ks.length := Nat.mul_le_mul_right _ hi
        rw [Nat.add_mul] at this
        omega
      have key : ∀ (ks' : List K) (y : Tl ks') (j p : Nat), p + ks'.length ≤ o + n * ks.length → Ownl w ks' y j (G i) cs p → Ownl (w.setCells b (o + n * ks.length) zs) ks' y j (fun j q => i < n ∧ G i j q) (setFrom cs (o + n * ks.length) zs) p := by
        intro ks'
        induction ks' with
        | nil => intro y j p _ _; trivial
        | cons k ks' ih =>
          intro y j p hp ⟨⟨v, q1, q2⟩, q3⟩
          simp only [List.length_cons] at hp
          refine ⟨⟨v, ?_, Own.frame k _ v (G i j) _ (fun q hq => ⟨hi, hq⟩) (fun q hq hqlt => ?_) q2⟩, ih y.2 (j + 1) (p + 1) (by omega) q3⟩
          · rw [setFrom_get _ _ _ _ hfit, if_neg (by omega)]; exact q1
          · rw [setCells_heap2, if_neg (fun e => (g6 i j q hq).2 e.symm)]
      exact key ks x 0 _ (by omega) hrow
    · refine ownl_zero ks 0 _ _ fun c v hc => ?_
      have hcl : c < ks.length := by
        rcases Nat.lt_or_ge c ks.length with hh | hh
        · exact hh
        · rw [List.getElem?_eq_none (by simpa using hh)] at hc; simp at hc
      have hidx : (i - n) * ks.length + c < ((els xs).length - n) * ks.length := by
        have : (i - n + 1) * ks.length ≤ ((els xs).length - n) * ks.length := Nat.mul_le_mul_right _ (by omega)
        rw [Nat.add_mul] at this
        omega
      have hoff : o + i * ks.length + c = o + n * ks.length + ((i - n) * ks.length + c) := by
        have : i * ks.length = n * ks.length + (i - n) * ks.length := by rw [← Nat.add_mul]; congr 1; omega
        omega
      rw [setFrom_get _ _ _ _ hfit, if_pos (by rw [hzl]; omega), hoff, Nat.add_sub_cancel_left, hz _ hidx, Nat.mul_comm, Nat.mul_add_mod, Nat.mod_eq_of_lt hcl]
      exact hc
end
end Go.Av
namespace Go.Av
open Go.RowKit (Below)
def clrI {α : Type} (d : α) (xs : List α) (n : Int) : List α := clr d xs n.toNat
def clearF (ta tb tc t0 tI : Nat) (tks : List K) (st : St) : Tr St := match st.tv t0, st.tv tI with
  | some (.v (.ref r j s)), some (.v (.d (.int k) n)) => (match st.cell r j with
    | some ⟨s', m, .own (.sl e ks) xs⟩ => bif Nat.beq s' s && K.sames ks tks then .need (cutOk n (els xs).length (els xs).length)
        (.ret ((((st.bindT ta (.v (.ref r j s), none)).bindT tb (.v (.d (.int k) n), none)).bindT tc (.v .dead, none)).setCell r j ⟨s', m + 1, .own (.sl e ks) (clrI (dfls ks) (els xs) n)⟩)) else .fail
    | _ => .fail)
  | _, _ => .fail
section
variable {P : Program} {E : En} {cx : Cx P}
theorem clear_sem (hT : TTok P E) {rid ta tb tc t0 tI ty : Nat} {te : TI} {o1 o2 o3 o4 : Oper} {c : Call} (hty : E.sl ty = some te)
    (d1 : o1.dst = some ta) (p1 : o1.op = .move (.tmp t0)) (g1 : o1.guard = none) (d2 : o2.dst = some tb) (p2 : o2.op = .move (.tmp tI)) (g2 : o2.guard = none)
    (d3 : o3.dst = some tc) (p3 : o3.op = .slice ty (.tmp ta) (some (.tmp tb)) none none) (g3 : o3.guard = none)
    (d4 : o4.dst = none) (p4 : o4.op = .call c) (g4 : o4.guard = none) (hcal : c.callee = .builtin .clear) (hargs : c.args.toList = [.tmp tc]) (hts : c.argTypes.toList = [ty])
    (b1 : E.dB ta = true) (b2 : E.dB tb = true) (b3 : E.dB tc = true) (n1 : Nat.beq ta tI = false) (n2 : Nat.beq ta tb = false) :
    RegSem P E (.region rid #[o1, o2, o3, o4] false) (clearF ta tb tc t0 tI te.ks) := by
  intro cx a w st st' h hrun
  unfold clearF at hrun
  split at hrun
  · rename_i r j s k n hst0 hstI
    split at hrun
    · rename_i s' m e ks xs hcell
      cases hb : Nat.beq s' s && K.sames ks te.ks with
      | false => rw [hb] at hrun; simp [Tr.run] at hrun
      | true =>
        rw [hb] at hrun
        simp only [cond_true] at hrun
        simp only [Bool.and_eq_true] at hb
        obtain ⟨hk, hrun⟩ := Tr.run_need hrun
        simp only [Tr.run, Option.some.injEq] at hrun
        subst hrun
        have es := beq_eq hb.1
        subst es
        have hsz2 := K.sames_eq _ _ hb.2
        subst hsz2
        obtain ⟨hn, hsz, Z, g, hr⟩ := h
        obtain ⟨k0, k1, k2⟩ := cutOk_spec hk
        refine wp_region ?_
        show wpOps P #[o1, o2, o3, o4] _ [0, 1, 2, 3] a w
        rw [wpOps_cons]
        refine wpOp_wop (i := 0) rfl g1 ?_
        obtain ⟨hn1, hw1⟩ := w_assign hr hn hsz d1 (hsz.dst b1) (.inl p1) (tv := .v (.ref r j s')) hst0
        refine hw1 _ _ fun Z1 gg1 a1 w1 hr1 hsz1 => ?_
        rw [wpOps_cons]
        refine wpOp_wop (i := 1) rfl g2 ?_
        have htI : (st.bindT ta (.v (.ref r j s'), none)).get (.tmp tI) = some (.v (.d (.int k) n)) := by
          show (st.bindT ta (.v (.ref r j s'), none)).tv tI = _
          unfold St.tv at hstI ⊢
          rw [bindT_tm, if_neg (Nat.ne_of_beq_eq_false n1)]
          split at hstI
          · rename_i q want y gg l hq
            cases hq2 : look st.tm q with
            | none => rw [hq2] at hstI; simp at hstI
            | some tq => exact absurd trivial (hn tI _ hq)
          · exact hstI
        obtain ⟨hn2, hw2⟩ := w_assign hr1 hn1 hsz1 d2 (hsz1.dst b2) (.inl p2) htI
        refine hw2 _ _ fun Z2 gg2 a2 w2 hr2 hsz2' => ?_
        rw [wpOps_cons]
        refine wpOp_wop (i := 2) rfl g3 ?_
        have hc2 : ((st.bindT ta (.v (.ref r j s'), none)).bindT tb (.v (.d (.int k) n), none)).cell r j = some ⟨s', m, .own (.sl e te.ks) xs⟩ := hcell
        have hta : look ((st.bindT ta (.v (.ref r j s'), none)).bindT tb (.v (.d (.int k) n), none)).tm ta = some (.v (.ref r j s')) := by
          rw [bindT_tm, if_neg (fun e => (Nat.ne_of_beq_eq_false n2) e.symm), bindT_tm, if_pos rfl]
        have htb : look ((st.bindT ta (.v (.ref r j s'), none)).bindT tb (.v (.d (.int k) n), none)).tm tb = some (.v (.d (.int k) n)) := by
          rw [bindT_tm, if_pos rfl]
        have va : a2.eval (.tmp ta) = gg2.cv r j := by
          obtain ⟨c1, q1, _, q3⟩ := (hr2.tm ta _ hta).2
          rw [hc2] at q1
          cases q1
          exact q3 rfl
        have hown : Own w2 (.sl e te.ks) xs (gg2.cv r j) (gg2.fp r j) := hr2.cell r j _ hc2
        have hown2 := hown
        obtain ⟨aa, cap, v1, v2, v3, v4, v5⟩ := hown2
        obtain ⟨tt, kss, t1, t2, t3, t4, hu⟩ := sl_desc hT hty
        have hs := fun w => run_sizeOf' (hT _ te t4) (P := P) w
        have hlh : loHi ((st.bindT ta (.v (.ref r j s'), none)).bindT tb (.v (.d (.int k) n), none)) (some (.tmp tb)) none (els xs).length = some (n, ((els xs).length : Int)) := by
          have : ((st.bindT ta (.v (.ref r j s'), none)).bindT tb (.v (.d (.int k) n), none)).get (.tmp tb) = some (.v (.d (.int k) n)) := by
            show St.tv _ tb = _
            unfold St.tv
            rw [htb]
          simp only [loHi, this, TV.int?, AV.int?]
          rfl
        have hslice : (execOp a2.eval o3).run P w2 = .ok (.value (.slice (if cap = n.toNat then aa else aa.map (·.add (n.toNat * te.ks.length))) ((els xs).length - n.toNat) (cap - n.toNat))) w2 := by
          have := slice_run hu hs (aa := aa) (bounds_run (P := P) hr2 hn2.cons.cons true hlh hk v2)
          simp only [Option.map_none] at this
          simp only [execOp, p3, va, v1, Option.map_none, Sem.run_bind, this, Result.andThen_ok]
          rfl
        unfold Oper.wp
        rw [hslice, Oper.upon_value, d3]
        generalize hv38 : (Value.slice (if cap = n.toNat then aa else aa.map (·.add (n.toNat * te.ks.length))) ((els xs).length - n.toNat) (cap - n.toNat)) = v38
        have hr3 := hr2.bindV (d := tc) (tv := .v .dead) (v := v38) (hsz2'.dst b3) trivial
        have hsz3 : Fit cx E (a2.put (some tc) v38) := hsz2'.put _ _
        rw [wpOps_cons]
        refine wpOp_wop (i := 3) rfl g4 ?_
        have htc : (a2.put (some tc) v38).eval (.tmp tc) = v38 := by
          have := (hsz2'.dst b3).1
          simp [Act.put, Act.eval, Array.getD_eq_getD_getElem?, this]
        have hgF : ∀ q, gg2.fp r j q → q < w2.heap.size := fun q hq => (hr2.fp r j q hq).1
        have hclear : ∃ w4, (execOp (a2.put (some tc) v38).eval o4).run P w2 = .ok (.value (.tuple #[])) w4 ∧ w4.os = w2.os ∧ w4.tape = w2.tape ∧ w4.output = w2.output ∧ w4.heap.size = w2.heap.size ∧ (∀ b, ¬ gg2.fp r j b → w4.heap[b]? = w2.heap[b]?) ∧ Own w4 (.sl e te.ks) (clrI (dfls te.ks) (els xs) n) (gg2.cv r j) (gg2.fp r j) := by
          have hargs' : c.args = #[.tmp tc] := by rw [← Array.toArray_toList (xs := c.args), hargs]
          have hts0 : c.argTypes[0]? = some ty := by rw [← Array.getElem?_toList, hts]; rfl
          have fin : ∀ w4, (Builtin.clear_ c.argTypes o4.type #[v38]).run P w2 = .ok (.tuple #[]) w4 → (execOp (a2.put (some tc) v38).eval o4).run P w2 = .ok (.value (.tuple #[])) w4 := fun w4 hh => by
            simp only [execOp, p4, resolve, hcal, hargs', List.map_toArray, List.map_cons, List.map_nil, Sem.run_bind, Sem.run_pure, Result.andThen_ok, invoke, builtin, htc, hh]
          rcases Nat.eq_zero_or_pos ((els xs).length - n.toNat) with hz | hpos
          · refine ⟨w2, fin w2 ?_, rfl, rfl, rfl, rfl, fun _ _ => rfl, ?_⟩
            · rw [← hv38, hz]
              simp only [Builtin.clear_, hts0, List.getElem?_toArray, List.getElem?_cons_zero, Sem.run_bind, run_underlying hu, Result.andThen_ok]
              cases hq : (if cap = n.toNat then aa else aa.map (·.add (n.toNat * te.ks.length))) <;> simp
            · have he : clrI (dfls te.ks) (els xs) n = els xs := by
                unfold clrI clr
                rw [hz, List.take_of_length_le (by omega)]
                simp
              rw [he]
              exact hown
          · have haa : ∃ b o, aa = some ⟨b, o, none⟩ := by
              cases aa with
              | none => have := v4 rfl; omega
              | some a' =>
                obtain ⟨b, o, _, _, _, e1, _⟩ := v5 a' rfl
                exact ⟨b, o, by rw [e1]⟩
            obtain ⟨b, o, rfl⟩ := haa
            obtain ⟨z, hz1, hz2⟩ := run_zero (hT _ te t4) (P := P) w2
            have hown' := hown
            rw [v1] at hown'
            have hzl : (Builtin.zeroCells z.cells ((els xs).length - n.toNat)).toList.length = ((els xs).length - n.toNat) * te.ks.length := by
              rw [Array.length_toList, size_zeroCells, ← Array.length_toList (xs := z.cells), hz2]; simp
            obtain ⟨c1, ⟨cs, el, fr, c2, c3, c4⟩, c5⟩ := own_clear hown' (n := n.toNat) (by omega) (zs := (Builtin.zeroCells z.cells ((els xs).length - n.toNat)).toList) (fun j hj => zeroCells_eq hz2 _ j hj) hzl hgF
            have hone : ∀ v ∈ (Builtin.zeroCells z.cells ((els xs).length - n.toNat)).toList, v.oneCell' = true := fun v hv => by
              obtain ⟨i, hi, hv⟩ := List.getElem_of_mem hv
              rw [hzl] at hi
              have h1 := zeroCells_eq hz2 _ i hi
              rw [List.getElem?_eq_getElem (by rw [hzl]; exact hi), hv, List.getElem?_map] at h1
              cases hk0 : te.ks[i % te.ks.length]? with
              | none => rw [hk0] at h1; simp at h1
              | some k0 =>
                rw [hk0] at h1
                simp only [Option.map_some, Option.some.injEq] at h1
                rw [h1]
                cases k0 <;> rfl
            have hstore := run_storeCells_cells (P := P) b (o + n.toNat * te.ks.length) (Builtin.zeroCells z.cells ((els xs).length - n.toNat)).toList 0 w2 (fun j hj => by
              simp only [World.cell?, Nat.add_zero, c2]
              simp
              omega) (fun j hj => by
              simp only [World.frozen?, Nat.add_zero, c2]
              simp only [Bool.and_eq_false_iff, decide_eq_false_iff_not]
              have := c3 (o + n.toNat * te.ks.length + j) (by omega)
              by_cases h : fr.1 ≤ o + n.toNat * te.ks.length + j
              · exact .inr fun h' => this ⟨h, h'⟩
              · exact .inl h) hone
            rw [Nat.add_zero] at hstore
            obtain ⟨w1', w2', w3', w4'⟩ := setCells_os (Builtin.zeroCells z.cells ((els xs).length - n.toNat)).toList b (o + n.toNat * te.ks.length) w2
            refine ⟨_, fin _ ?_, w1', w2', w3', w4', fun b' hb' => ?_, by rw [v1]; exact c5⟩
            · rw [← hv38]
              have hne : cap ≠ n.toNat := by omega
              obtain ⟨q, hq⟩ : ∃ q, (els xs).length - n.toNat = q + 1 := ⟨(els xs).length - n.toNat - 1, by omega⟩
              simp only [if_neg hne, Option.map_some, add_mk, Builtin.clear_, hts0, List.getElem?_toArray, List.getElem?_cons_zero, Sem.run_bind, run_underlying hu, Result.andThen_ok, hq]
              rw [hq] at hstore
              simp only [hz1, Sem.run_bind, Result.andThen_ok, hstore, Sem.run_pure]
            · rw [setCells_heap2, if_neg]
              intro e
              subst e
              exact hb' c1
        obtain ⟨w4, q1, q2, q3, q4, q5, q6, q7⟩ := hclear
        unfold Oper.wp
        rw [q1, Oper.upon_value, d4]
        have hlent := setCells_lent (g := gg2) (F := fun _ _ => False) (G := fun _ _ => False) (st := ((st.bindT ta (.v (.ref r j s'), none)).bindT tb (.v (.d (.int k) n), none)).bindT tc (.v .dead, none)) [(r, j, (⟨s', m + 1, .own (.sl e te.ks) (clrI (dfls te.ks) (els xs) n)⟩ : RC))] 0
        have hcl : (clrI (dfls te.ks) (els xs) n).length = (els xs).length := clr_len _ _ _ (by omega)
        obtain ⟨hR, _⟩ := hr3.lend hlent q2 q3 q4 (Nat.le_of_eq q5.symm)
          (fun r1 j1 p hp => by
            obtain ⟨i, e1, e2⟩ := lentOf_some _ 0 r1 j1 p hp
            cases i with
            | succ i => simp at e1
            | zero =>
              simp only [List.getElem?_cons_zero, Option.some.injEq, Prod.mk.injEq] at e1
              obtain ⟨rfl, rfl, e3⟩ := e1
              rw [← e3]
              refine ⟨_, hc2, rfl, Nat.lt_succ_self _, e, te.ks, xs, _, rfl, rfl, hcl, ?_⟩
              rw [e2]
              exact Own.frame _ _ _ _ _ (fun b hb => .inl ⟨hb, fun h => h⟩) (fun _ _ _ => rfl) q7)
          (fun r1 j1 p hp b hb => by
            obtain ⟨i, e1, e2⟩ := lentOf_some _ 0 r1 j1 p hp
            rw [e2] at hb
            rcases hb with ⟨hb, _⟩ | hb
            · exact ⟨by rw [q5]; exact (hr2.fp _ _ _ hb).1, .inl ⟨r1, j1, p, hp, hb⟩, (hr2.fp _ _ _ hb).2.2.1⟩
            · exact hb.elim)
          (fun r1 j1 p r2 j2 p' b hp hp' hb hb' => by
            obtain ⟨i, e1, e2⟩ := lentOf_some _ 0 r1 j1 p hp
            obtain ⟨i', e1', e2'⟩ := lentOf_some _ 0 r2 j2 p' hp'
            rw [e2] at hb
            rw [e2'] at hb'
            rcases hb with ⟨hb, _⟩ | hb
            · rcases hb' with ⟨hb', _⟩ | hb'
              · exact hr2.disj _ _ _ _ b hb hb'
              · exact hb'.elim
            · exact hb.elim)
          (fun b hb hno => q6 b fun hh => by
            obtain ⟨p0, hp0⟩ := lentOf_is (g := gg2) (F := fun _ _ => False) (G := fun _ _ => False) [(r, j, (⟨s', m + 1, .own (.sl e te.ks) (clrI (dfls te.ks) (els xs) n)⟩ : RC))] 0 0 r j _ rfl
            exact hno r j p0 hp0 hh)
        refine ⟨fun t tv ht => ?_, hsz3, Z2, _, hR⟩
        have ht : look (((st.bindT ta (.v (.ref r j s'), none)).bindT tb (.v (.d (.int k) n), none)).bindT tc (.v .dead, none)).tm t = some tv := by
          rw [setCell_tm] at ht; exact ht
        rw [bindT_tm] at ht
        split at ht
        · simp only [Option.some.injEq] at ht; subst ht; exact fun h => h
        · exact hn2 t tv ht
    · simp [Tr.run] at hrun
  · simp [Tr.run] at hrun
end
end Go.Av
namespace Go.Av
open Go.RowKit (Below)
section
variable {P : Program} {w w' : World}
def cut (cs : Array Value) (o n : Nat) : List Value := (List.range n).map fun q => cs.getD (o + q) undef
end
end Go.Av
namespace Go.Av
open Go.RowKit (Below)
structure InsWalk (P : Program) (f T ov k : Nat) : Prop where
  zero : ∀ (a : Option Addr) (n c i : Nat) (a2 : Option Addr) (m c2 : Nat) (w : World), i ≤ n → n ≤ c → (m : Int) = 0 →
    Calls P f #[.slice a n c, .int .i64 i, .slice a2 m c2] w fun e w' => e = .returned (.slice a n c) ∧ w' = w
  last : ∀ (a : Option Addr) (n c : Nat) (a2 : Option Addr) (m c2 : Nat) (w w' : World) (v' : Value), n ≤ c → ¬ ((m : Int) = 0) →
    (Builtin.append_ #[T, T] T #[.slice a n c, .slice a2 m c2]).run P w = .ok v' w' →
    Calls P f #[.slice a n c, .int .i64 n, .slice a2 m c2] w fun e w1 => e = .returned v' ∧ w1 = w'
  room : ∀ (b o n c i : Nat) (a2 : Option Addr) (m c2 : Nat) (w : World), i < n → n + m ≤ c → n + m ≤ 140737488355328 → 0 < m → ∀ (W1 W2 : World),
    (∀ lb cb, (callFunc ov #[.slice a2 m c2, .slice (some ⟨b, o + (i + m) * k, none⟩) lb cb]).run P w = .ok (.value (.bool false)) w) →
    (∀ ty dc sc, (Builtin.copy_ #[T, T] ty #[.slice (some ⟨b, o + (i + m) * k, none⟩) (n + m - (i + m)) dc, .slice (some ⟨b, o + i * k, none⟩) (n + m - i) sc]).run P w.drew = .ok (goInt (n - i : Nat)) W1) →
    (∀ ty dc, (Builtin.copy_ #[T, T] ty #[.slice (some ⟨b, o + i * k, none⟩) (n + m - i) dc, .slice a2 m c2]).run P W1 = .ok (goInt m) W2) →
    Calls P f #[.slice (some ⟨b, o, none⟩) n c, .int .i64 i, .slice a2 m c2] w fun e w1 => e = .returned (.slice (some ⟨b, o, none⟩) (n + m) c) ∧ w1 = W2
  grow : ∀ (b o n c i : Nat) (a2 : Option Addr) (m c2 : Nat) (w : World), i < n → n ≤ c → c < n + m → n + m ≤ 140737488355328 → 0 < m → ∀ (W1 W2 W3 : World) (N G : Nat), n + m ≤ G → G ≤ 9223372036854775807 →
    (∀ ty, (Builtin.append_ #[T, 3] ty #[.slice (some ⟨b, o, none⟩) i c, .int .i64 ((n : Int) + (m : Int) - (i : Int))]).run P w = .ok (.slice (some ⟨N, 0, none⟩) (n + m) G) W1) →
    (∀ ty dc, (Builtin.copy_ #[T, T] ty #[.slice (some ⟨N, i * k, none⟩) (n + m - i) dc, .slice a2 m c2]).run P W1 = .ok (goInt m) W2) →
    (∀ ty dc sc, (Builtin.copy_ #[T, T] ty #[.slice (some ⟨N, (i + m) * k, none⟩) (n + m - (i + m)) dc, .slice (some ⟨b, o + i * k, none⟩) (n - i) sc]).run P W2.drew = .ok (goInt (n - i : Nat)) W3) →
    Calls P f #[.slice (some ⟨b, o, none⟩) n c, .int .i64 i, .slice a2 m c2] w fun e w1 => e = .returned (.slice (some ⟨N, 0, none⟩) (n + m) G) ∧ w1 = W3
section
variable {P : Program} {w w' : World}
end
end Go.Av
namespace Go.Av
open Go.RowKit (Below)
section
variable {P : Program} {E : En} {ops : Array Oper} {P : Program} {cx : Cx P} {Q : Exit → Act → World → Prop}
end
end Go.Av
namespace Go.Av
open Go.RowKit (Below)
section
variable {st : St} {tm : List (Nat × TV)}
end
end Go.Av
namespace Go.Av
def VerOK (st st' : St) : Prop := ∀ r j c, st.cell r j = some c → ∃ c', st'.cell r j = some c' ∧ c.s ≤ c'.s ∧ c.m ≤ c'.m ∧ (c'.s = c.s → c'.m = c.m → c' = c)
theorem VerOK.refl (st : St) : VerOK st st := fun r j c h => ⟨c, h, Nat.le_refl _, Nat.le_refl _, fun _ _ => rfl⟩
theorem VerOK.trans {a b c : St} (h1 : VerOK a b) (h2 : VerOK b c) : VerOK a c := fun r j x hx => by
  obtain ⟨y, hy, s1, m1, e1⟩ := h1 r j x hx
  obtain ⟨z, hz, s2, m2, e2⟩ := h2 r j y hy
  exact ⟨z, hz, Nat.le_trans s1 s2, Nat.le_trans m1 m2, fun es em => by
    have ey := e1 (by omega) (by omega)
    subst ey
    exact e2 es em⟩
theorem VerOK.set {st : St} {r j : Nat} {c c0 : RC} (h0 : st.cell r j = some c0) (hs : c0.s ≤ c.s) (hm : c0.m < c.m) : VerOK st (st.setCell r j c) := fun r' j' x hx => by
  rw [setCell_cell]
  by_cases h : r = r' ∧ j = j'
  · obtain ⟨rfl, rfl⟩ := h
    rw [if_pos ⟨rfl, rfl⟩, hx]
    rw [h0] at hx
    cases hx
    exact ⟨c, rfl, hs, Nat.le_of_lt hm, fun _ e => by omega⟩
  · rw [if_neg h]
    exact ⟨x, hx, Nat.le_refl _, Nat.le_refl _, fun _ _ => rfl⟩
section
variable {E : En} {base : St} {ops : List Oper} {ns : List Nat}
end
end Go.Av
namespace Go.Av
open Go.RowKit (Below)
theorem memN_mem : ∀ {l : List Nat} {n : Nat}, memN l n = true → n ∈ l
  | [], n, h => by simp [memN] at h
  | x :: r, n, h => by
    simp only [memN, Bool.or_eq_true] at h
    rcases h with h | h
    · rw [beq_eq h]; exact List.mem_cons_self ..
    · exact List.mem_cons_of_mem _ (memN_mem h)
section
variable {P : Program} {E : En}
end
end Go.Av
namespace Go.Av
open Go.RowKit (Below)
section
variable {P : Program} {ops : Array Oper} {Q : Exit → Act → World → Prop}
end
section
variable {P : Program} {E : En}
end
end Go.Av
namespace Go.Av
open Go.RowKit (Below)
section
variable {P : Program} {E : En} {ops : Array Oper} {P : Program} {cx : Cx P} {Q : Exit → Act → World → Prop}
end
end Go.Av
namespace Go.Av
open Go.RowKit (Below)
section
variable {P : Program} {w w' : World}
end
end Go.Av
namespace Go.Av
open Go.RowKit (Below)
section
variable {P : Program} {E : En} {cx : Cx P} {Z : Nat → Prop} {g : Gh} {st v : St} {a : Act} {w : World}
theorem eval_put_self {a : Act} {d : Nat} {v : Value} (hd : d < a.tmps.size) : (a.put (some d) v).eval (.tmp d) = v := by
  simp [Act.put, Act.eval, Array.getD_eq_getD_getElem?, hd]
end
end Go.Av
namespace Go.Av
open Go.RowKit (Below)
section
variable {P : Program} {E : En}
end
end Go.Av
namespace Go.Av
open Go.RowKit (Below)
def isIntV (v : Value) : Prop := ∃ k n, v = .int k n
def intMove (ints : List Nat) (o : Oper) (d : Nat) : Bool := match o.op, o.guard, o.dst with | .move (.tmp b), none, some d' => memN ints b && Nat.beq d' d | _, _, _ => false
def dstsNew (l : List Oper) (ints : List Nat) : Bool := (List.range l.length).all fun i => match dstOf l i with | some d => !memN ints d && (List.range l.length).all fun k => Nat.beq k i || (match dstOf l k with | some d' => !Nat.beq d' d | none => true) | none => true
def IntsOf (ops : Array Oper) (ints : List Nat) (listed : Array Bool) (a : Act) : Prop :=
  (∀ (k : Nat) (o : Oper) (d : Nat), ops[k]? = some o → o.dst = some d → d < a.tmps.size) ∧ (∀ b ∈ ints, isIntV (a.eval (.tmp b))) ∧ ∀ (k : Nat) (o : Oper) (d : Nat), ops[k]? = some o → intMove ints o d = true → listed.getD k false = true → isIntV (a.eval (.tmp d))
theorem memN_of : ∀ {l : List Nat} {n : Nat}, n ∈ l → memN l n = true
  | x :: r, n, h => by
    simp only [memN, Bool.or_eq_true]
    rcases List.mem_cons.1 h with h | h
    · subst h; exact .inl (Nat.beq_refl _)
    · exact .inr (memN_of h)
section
variable {P : Program} {ops : Array Oper} {Q : Exit → Act → World → Prop} {ints : List Nat}
theorem dstsNew_spec (h : dstsNew ops.toList ints = true) {k : Nat} {o : Oper} {d : Nat} (ho : ops[k]? = some o) (hd : o.dst = some d) : (∀ b ∈ ints, b ≠ d) ∧ ∀ (k' : Nat) (o' : Oper), ops[k']? = some o' → o'.dst = some d → k' = k := by
  have hk : k < ops.toList.length := by rw [Array.length_toList]; exact (Array.getElem?_eq_some_iff.1 ho).1
  have h1 := List.all_eq_true.1 h k (List.mem_range.2 hk)
  have e : dstOf ops.toList k = some d := by unfold dstOf; rw [Array.getElem?_toList, ho]; exact hd
  rw [e] at h1
  simp only [Bool.and_eq_true, Bool.not_eq_true'] at h1
  refine ⟨fun b hb hbd => ?_, fun k' o' ho' hd' => ?_⟩
  · subst hbd
    have : memN ints b = true := memN_of hb
    rw [h1.1] at this
    simp at this
  · have hk' : k' < ops.toList.length := by rw [Array.length_toList]; exact (Array.getElem?_eq_some_iff.1 ho').1
    have h2 := List.all_eq_true.1 h1.2 k' (List.mem_range.2 hk')
    have e' : dstOf ops.toList k' = some d := by unfold dstOf; rw [Array.getElem?_toList, ho']; exact hd'
    rw [e'] at h2
    simp only [Bool.or_eq_true, Bool.not_eq_true'] at h2
    rcases h2 with h2 | h2
    · exact beq_eq h2
    · exact absurd rfl (Nat.ne_of_beq_eq_false h2)
theorem intMove_spec {o : Oper} {d : Nat} (h : intMove ints o d = true) : ∃ b, o.op = .move (.tmp b) ∧ o.guard = none ∧ o.dst = some d ∧ b ∈ ints := by
  unfold intMove at h
  split at h
  · rename_i b d' h1 h2 h3
    simp only [Bool.and_eq_true] at h
    have := beq_eq h.2
    subst this
    exact ⟨b, h1, h2, h3, memN_mem h.1⟩
  · simp at h
theorem eval_defers (a : Act) (l : List Deferred) (x : Operand) : ({ a with defers := l } : Act).eval x = a.eval x := by cases x <;> rfl
theorem IntsOf.put (hnew : dstsNew ops.toList ints = true) {k : Nat} {o : Oper} (ho : ops[k]? = some o) {listed : Array Bool} {a : Act} (hI : IntsOf ops ints listed a) {v : Value} (hv : ∀ d, intMove ints o d = true → isIntV v) : IntsOf ops ints (listed.setIfInBounds k true) (a.put o.dst v) := by
  cases hd : o.dst with
  | none =>
    refine ⟨hI.1, fun b hb => hI.2.1 b hb, fun k' o' d' ho' hm hl => ?_⟩
    have hne : k ≠ k' := fun e => by
      subst e
      rw [ho] at ho'; cases ho'
      obtain ⟨_, _, _, h3, _⟩ := intMove_spec hm
      rw [hd] at h3; simp at h3
    rw [getD_set_ne false hne] at hl
    exact hI.2.2 k' o' d' ho' hm hl
  | some d =>
    obtain ⟨n1, n2⟩ := dstsNew_spec hnew ho hd
    have hev : ∀ t, t ≠ d → (a.put (some d) v).eval (.tmp t) = a.eval (.tmp t) := fun t ht => Act.eval_put fun d' e e2 => by cases e; cases e2; exact ht rfl
    refine ⟨fun k' o' d' ho' hd' => by rw [put_size]; exact hI.1 k' o' d' ho' hd', fun b hb => by rw [hev b (n1 b hb)]; exact hI.2.1 b hb, fun k' o' d' ho' hm hl => ?_⟩
    obtain ⟨b', _, _, h3, _⟩ := intMove_spec hm
    by_cases e : d' = d
    · subst e
      have := n2 k' o' ho' h3
      subst this
      rw [ho] at ho'; cases ho'
      rw [eval_put_self (hI.1 _ _ _ ho hd)]
      exact hv _ hm
    · rw [hev d' e]
      have hne : k ≠ k' := fun e2 => by
        subst e2
        rw [ho] at ho'; cases ho'
        rw [hd] at h3; cases h3; exact e rfl
      rw [getD_set_ne false hne] at hl
      exact hI.2.2 k' o' d' ho' hm hl
theorem IntsOf.defers {listed : Array Bool} {a : Act} {l : List Deferred} (hI : IntsOf ops ints listed a) : IntsOf ops ints listed { a with defers := l } :=
  ⟨hI.1, fun b hb => by rw [eval_defers]; exact hI.2.1 b hb, fun k o d ho hm hl => by rw [eval_defers]; exact hI.2.2 k o d ho hm hl⟩
end
end Go.Av
namespace Go.Av
open Go.RowKit (Below)
section
variable {w : World}
end
end Go.Av
namespace Go.Av
open Go.RowKit (Below)
section
variable {P : Program} {E : En} {cx : Cx P} {Z : Nat → Prop} {g : Gh} {st v : St} {a : Act} {w : World}
end
end Go.Av
namespace Go.Av
open Go.RowKit (Below)
section
variable {P : Program} {E : En}
end
end Go.Av
namespace Go.Av
theorem SuOK.zero {P : Program} {f : Nat} {s : Su} (h : ∀ x, s.ans x = none) : SuOK P f s := fun w Z F args x y _ _ _ _ _ hy => by
  rw [h x] at hy
  simp at hy
end Go.Av
namespace Go.Av
open Go.RowKit (Below)
section
variable {P : Program} {w : World} {E : En}
end
end Go.Av
namespace Go.Av
open Go.RowKit (Below)
section
variable {P : Program} {E : En} {cx : Cx P} {Z : Nat → Prop} {g : Gh} {st v : St} {a : Act} {w : World}
theorem NoMay.bind {st : St} (h : NoMay st) {d : Nat} {b : AV} {R : Option Rt} : NoMay (st.bindT d (.v b, R)) := fun t tv ht => by
  rw [bindT_tm] at ht
  split at ht
  · simp only [Option.some.injEq] at ht; subst ht; exact fun h => h
  · exact h t tv ht
end
end Go.Av
namespace Go.Av
open Go.RowKit (Below)
section
variable {P : Program} {E : En} {cx : Cx P} {Z : Nat → Prop} {g : Gh} {st v : St} {a : Act} {w : World}
end
end Go.Av
namespace Go.Av
section
variable {α A X Y : Type}
def goL (f : Nat → α → A → Sum A Y) (z : A → Y) : Nat → List α → A → Y
  | _, [], a => z a
  | i, x :: r, a => match f i x a with
    | .inl a' => goL f z (i + 1) r a'
    | .inr y => y
theorem loop_list_from {step : X → Option (Sum X Y)} (xs : List α) (S : Nat → A → X) (f : Nat → α → A → Sum A Y) (z : A → Y) (I : Nat → A → Prop)
    (hs : ∀ i x a, xs[i]? = some x → I i a → step (S i a) = some (match f i x a with | .inl a' => .inl (S (i + 1) a') | .inr y => .inr y))
    (hI : ∀ i x a a', xs[i]? = some x → I i a → f i x a = .inl a' → I (i + 1) a')
    (he : ∀ a, I xs.length a → step (S xs.length a) = some (.inr (z a))) :
    ∀ (ys : List α) (i : Nat) (a : A), i + ys.length = xs.length → ys = xs.drop i → I i a → loopF step (S i a) = some (goL f z i ys a)
  | [], i, a, hl, hy, h => by
    have : i = xs.length := by simpa using hl
    subst this
    exact loopF_end step (he a h)
  | x :: r, i, a, hl, hy, h => by
    have hx : xs[i]? = some x := by
      have := congrArg (·[0]?) hy
      simp only [List.getElem?_cons_zero, List.getElem?_drop, Nat.add_zero] at this
      exact this.symm
    have hr : r = xs.drop (i + 1) := by
      have := congrArg List.tail hy
      simpa using this
    have hst := hs i x a hx h
    cases hf : f i x a with
    | inl a' =>
      rw [hf] at hst
      refine loopF_step step hst ?_
      rw [goL, hf]
      exact loop_list_from xs S f z I hs hI he r (i + 1) a' (by simp only [List.length_cons] at hl; omega) hr (hI i x a a' hx h hf)
    | inr y =>
      rw [hf] at hst
      rw [goL, hf]
      exact loopF_end step hst
theorem loop_inv {step : X → Option (Sum X Y)} (xs : List α) (S : Nat → A → X) (f : Nat → α → A → Sum A Y) (z : A → Y) (I : Nat → A → Prop) {a0 : A} (h0 : I 0 a0)
    (hs : ∀ i x a, xs[i]? = some x → I i a → step (S i a) = some (match f i x a with | .inl a' => .inl (S (i + 1) a') | .inr y => .inr y))
    (hI : ∀ i x a a', xs[i]? = some x → I i a → f i x a = .inl a' → I (i + 1) a')
    (he : ∀ a, I xs.length a → step (S xs.length a) = some (.inr (z a))) : loopF step (S 0 a0) = some (goL f z 0 xs a0) :=
  loop_list_from xs S f z I hs hI he xs 0 a0 (by simp) (by simp) h0
theorem loop_list {step : X → Option (Sum X Y)} (xs : List α) (S : Nat → A → X) (f : Nat → α → A → Sum A Y) (z : A → Y) {a0 : A}
    (hs : ∀ i x a, xs[i]? = some x → step (S i a) = some (match f i x a with | .inl a' => .inl (S (i + 1) a') | .inr y => .inr y))
    (he : ∀ a, step (S xs.length a) = some (.inr (z a))) : loopF step (S 0 a0) = some (goL f z 0 xs a0) :=
  loop_inv xs S f z (fun _ _ => True) trivial (fun i x a h _ => hs i x a h) (fun _ _ _ _ _ _ _ => trivial) fun a _ => he a
theorem loop_post {step : X → Option (Sum X Y)} (xs : List α) (S : Nat → A → X) (z : A → Y) (I : Nat → A → Prop)
    (hs : ∀ i x a, xs[i]? = some x → I i a → ∃ a', step (S i a) = some (.inl (S (i + 1) a')) ∧ I (i + 1) a')
    (he : ∀ a, I xs.length a → step (S xs.length a) = some (.inr (z a))) : ∀ (n k : Nat) (a : A), k + n = xs.length → I k a → ∃ a', I xs.length a' ∧ loopF step (S k a) = some (z a')
  | 0, k, a, hk, h => by
    rw [Nat.add_zero] at hk
    subst hk
    exact ⟨a, h, loopF_end step (he a h)⟩
  | n + 1, k, a, hk, h => by
    have hx : xs[k]? = some (xs[k]'(by omega)) := List.getElem?_eq_getElem (by omega)
    obtain ⟨a1, h1, h2⟩ := hs k _ a hx h
    obtain ⟨a', h3, h4⟩ := loop_post xs S z I hs he n (k + 1) a1 (by omega) h2
    exact ⟨a', h3, loopF_step step h1 h4⟩
theorem goL_all (p : α → Bool) (y : Y) (z : Unit → Y) : ∀ (xs : List α) (i : Nat), goL (fun _ x _ => bif p x then .inl () else .inr y) z i xs () = bif xs.all p then z () else y
  | [], _ => rfl
  | x :: r, i => by
    rw [goL, List.all_cons]
    cases hp : p x with
    | true => simp only [cond_true, Bool.true_and]; exact goL_all p y z r (i + 1)
    | false => rfl
def allI (p : Nat → α → Bool) : Nat → List α → Bool
  | _, [] => true
  | i, x :: r => p i x && allI p (i + 1) r
theorem goL_allI (p : Nat → α → Bool) (y : Y) (z : Unit → Y) : ∀ (xs : List α) (i : Nat), goL (fun i x _ => bif p i x then .inl () else .inr y) z i xs () = bif allI p i xs then z () else y
  | [], _ => rfl
  | x :: r, i => by
    rw [goL, allI]
    cases hp : p i x with
    | true => simp only [cond_true, Bool.true_and]; exact goL_allI p y z r (i + 1)
    | false => rfl
theorem allI_get (p : Nat → α → Bool) : ∀ {xs : List α} {k : Nat}, allI p k xs = true → ∀ {i : Nat} {x : α}, xs[i]? = some x → p (k + i) x = true
  | [], k, _, i, x, hx => by simp at hx
  | y :: r, k, h, i, x, hx => by
    simp only [allI, Bool.and_eq_true] at h
    cases i with
    | zero => simp only [List.getElem?_cons_zero, Option.some.injEq] at hx; subst hx; exact h.1
    | succ i =>
      have := allI_get p h.2 (i := i) (x := x) (by simpa using hx)
      rwa [show k + 1 + i = k + (i + 1) by omega] at this
theorem goL_fold (f : α → A → A) (z : A → Y) : ∀ (xs : List α) (i : Nat) (a : A), goL (fun _ x a => .inl (f x a)) z i xs a = z (xs.foldl (fun a x => f x a) a)
  | [], _, _ => rfl
  | x :: r, i, a => by rw [goL, List.foldl_cons]; exact goL_fold f z r (i + 1) _
end
section
variable {α : Type}
theorem addW1 {i : Nat} (h : i ≤ big) : addW .i64 (i : Int) 1 = ((i + 1 : Nat) : Int) := by
  unfold addW
  rw [IntWalk.i64_in _ (by have : big = 140737488355328 := rfl; omega)]
  omega
theorem addW_in {a b : Int} (h1 : -4611686018427387904 ≤ a + b) (h2 : a + b ≤ 4611686018427387904) : addW .i64 a b = a + b := by
  unfold addW; rw [IntWalk.i64_in _ (by omega)]
theorem subW_in {a b : Int} (h1 : -4611686018427387904 ≤ a - b) (h2 : a - b ≤ 4611686018427387904) : subW .i64 a b = a - b := by
  unfold subW; rw [IntWalk.i64_in _ (by omega)]
theorem lt_of_get {xs : List α} {i : Nat} {x : α} (h : xs[i]? = some x) : i < xs.length := (List.getElem?_eq_some_iff.1 h).1
theorem ltI_in {xs : List α} {i : Nat} {x : α} (h : xs[i]? = some x) : ltI (i : Int) (lenI xs) = true := by
  have := lt_of_get h
  unfold ltI lenI; exact decide_eq_true (by omega)
theorem ltI_out {xs : List α} {n : Nat} (h : xs.length = n) : ltI (n : Int) (lenI xs) = false := by
  unfold ltI lenI; exact decide_eq_false (by omega)
theorem ltI_no {a b : Int} (h : ¬ a < b) : ltI a b = false := decide_eq_false h
theorem ltI_yes {a b : Int} (h : a < b) : ltI a b = true := decide_eq_true h
theorem inB_in {xs : List α} {i : Nat} {x : α} (h : xs[i]? = some x) : inB (i : Int) xs = true := by
  have := lt_of_get h
  unfold inB idxOk leI ltI; rw [decide_eq_true (by omega), decide_eq_true (by omega)]; rfl
theorem inB_lt {xs : List α} {i : Nat} (h : i < xs.length) : inB (i : Int) xs = true := by
  unfold inB idxOk leI ltI; rw [decide_eq_true (by omega), decide_eq_true (by omega)]; rfl
theorem gt_in {xs : List α} {i : Nat} {x : α} (d : α) (h : xs[i]? = some x) : gt d xs (i : Int) = x := by
  simp [gt, List.getD, h]
theorem bytI_in {xs : List UInt8} {i : Nat} {x : UInt8} (h : xs[i]? = some x) : bytI xs (i : Int) = (x.toNat : Int) := by
  simp [bytI, bytAt, List.getD, h]
theorem eqI_refl (n : Int) : eqI n n = true := by simp [eqI]
theorem eqS_refl (s : List UInt8) : eqS s s = true := by simp [eqS]
theorem mkB_in {xs : List α} {b : Nat} (hb : 0 < b) (h : xs.length * b ≤ big) : mkB b (lenI xs) = true := by
  have h1 : ((xs.length : Int) * (b : Int)) ≤ (big : Int) := by exact_mod_cast h
  unfold mkB lenI leI
  rw [decide_eq_true (Int.natCast_nonneg _), decide_eq_true h1]
  exact Nat.ble_eq_true_of_le hb
theorem repI_len {β : Type} {xs : List α} (d : β) : repI d (lenI xs) = List.replicate xs.length d := by simp [repI, lenI]
theorem gt_mid (d : α) {done : List α} {y : α} {r : List α} {i : Nat} (h : done.length = i) : gt d (done ++ y :: r) (i : Int) = y := by
  subst h; simp [gt, List.getD]
theorem stI_mid {done : List α} {x y : α} {r : List α} {i : Nat} (h : done.length = i) : stI (done ++ x :: r) (i : Int) y = done ++ y :: r := by
  subst h; simp [stI, List.set_append]
theorem inB_mid {done : List α} {y : α} {r : List α} {i : Nat} (h : done.length = i) : inB (i : Int) (done ++ y :: r) = true := by
  apply inB_lt; simp; omega
end
def szR (left : Int) (n : Nat) : Int := if (n : Int) ≤ left then left - n else -1
theorem szR_pos {left : Int} {n : Nat} (h : (n : Int) ≤ left) : szR left n = left - n := if_pos h
theorem szR_neg {left : Int} {n : Nat} (h : ¬ (n : Int) ≤ left) : szR left n = -1 := if_neg h
theorem szR_len {α : Type} {left : Int} {s : List α} (h0 : 0 ≤ left) (h1 : left ≤ 1048576) (hs : s.length ≤ big) : subW .i64 left (lenI s) = left - (s.length : Int) := by
  have : big = 140737488355328 := rfl
  exact subW_in (by unfold lenI; omega) (by unfold lenI; omega)
def wL {α : Type} (w : α → Nat) (xs : List α) : Nat := xs.length + (xs.map w).sum
def cL {α : Type} (c : α → Nat) (xs : List α) : Nat := (xs.map c).sum
theorem goL_sz {α Y : Type} (w : α → Nat) (y : Y) (z : Int → Y) : ∀ (xs : List α) (i : Nat) (a : Int), 0 ≤ a → goL (fun _ x (a : Int) => bif decide ((w x : Int) ≤ a) then Sum.inl (a - w x) else .inr y) z i xs a = if ((cL w xs : Nat) : Int) ≤ a then z (a - (cL w xs : Nat)) else y
  | [], _, a, h => by simp [goL, cL, h]
  | x :: r, i, a, h => by
    rw [goL]
    by_cases hx : (w x : Int) ≤ a
    · simp only [hx, decide_true, cond_true]
      rw [goL_sz w y z r (i + 1) (a - w x) (by omega)]
      have e : ((cL w (x :: r) : Nat) : Int) = w x + (cL w r : Nat) := by simp [cL]
      rw [e]
      by_cases h2 : ((cL w r : Nat) : Int) ≤ a - w x
      · rw [if_pos h2, if_pos (by omega)]; congr 1; omega
      · rw [if_neg h2, if_neg (by omega)]
    · simp only [hx, decide_false, cond_false]
      rw [if_neg]
      have e : ((cL w (x :: r) : Nat) : Int) = w x + (cL w r : Nat) := by simp [cL]
      rw [e]; omega
theorem cL_mem {α : Type} (c : α → Nat) : ∀ {xs : List α} {i : Nat} {x : α}, xs[i]? = some x → c x ≤ cL c xs
  | [], i, x, h => by simp at h
  | y :: r, 0, x, h => by simp at h; subst h; simp [cL]
  | y :: r, i + 1, x, h => by
    have := cL_mem c (xs := r) (i := i) (x := x) (by simpa using h)
    simp only [cL, List.map_cons, List.sum_cons] at this ⊢
    omega
theorem len_le_wL {α : Type} (w : α → Nat) (xs : List α) : xs.length ≤ wL w xs := Nat.le_add_right _ _
theorem mem_le_wL {α : Type} (w : α → Nat) {xs : List α} {y : α} (h : y ∈ xs) : w y ≤ wL w xs := by
  obtain ⟨i, hi⟩ := List.getElem?_of_mem h
  exact Nat.le_trans (cL_mem w hi) (Nat.le_add_left _ _)
theorem goL_cp {α Y : Type} (z : List α → Y) : ∀ (xs : List α) (i : Nat) (d : List α), goL (fun _ x (a : List α) => Sum.inl (a ++ [x])) z i xs d = z (d ++ xs)
  | [], _, d => by simp [goL]
  | x :: r, i, d => by rw [goL]; simp only; rw [goL_cp z r (i + 1)]; simp
end Go.Av
namespace Go.Av
open Go.RowKit (Below)
mutual
def BgK : (k : K) → T k → Prop
  | .int _, _ => True
  | .bool, _ => True
  | .str, s => List.length (α := UInt8) s ≤ big
  | .sl e ks, xs => (els (e := e) (ks := ks) xs).length ≤ big ∧ ∀ y ∈ els (e := e) (ks := ks) xs, BgL ks y
def BgL : (ks : List K) → Tl ks → Prop
  | [], _ => True
  | k :: ks, x => BgK k x.1 ∧ BgL ks x.2
end
def flB (E : En) (rd : Nat → Bool) : List (Nat × Nat) → List K → Nat → Bool
  | [], [], _ => true
  | (o, u) :: r, ks, off => Nat.beq o off && (rd u && match E.ti u with
    | some tu => K.sames (ks.take tu.ks.length) tu.ks && (Nat.ble tu.ks.length ks.length && flB E rd r (ks.drop tu.ks.length) (off + tu.ks.length))
    | none => false)
  | _, _, _ => false
def rdB (E : En) : Nat → Nat → Bool
  | 0, _ => false
  | n + 1, t => match E.ti t with
    | some ti => (match ti.agg with
      | true => flB E (rdB E n) ti.flds ti.ks 0
      | false => (match ti.ks with
        | [.sl e ks] => (match E.ti e with | some te => K.sames ks te.ks && (Nat.blt 0 te.bytes && (Nat.blt 0 te.ks.length && rdB E n e)) | none => false)
        | _ => true))
    | none => false
section
variable {H : Type} {enc : TypeId × Value → H} {P : Program} {w : World} {spare : Nat → Bool} {held : Bool} {E : En}
theorem ROl_cells (w : World) : ∀ (ks : List K) (x : Tl ks) (cs : List Value) (b o : Nat), ROs (Zall w) w ks x cs → (∀ j v, cs[j]? = some v → w.cell? ⟨b, o + j, none⟩ = some v) → ROl (Zall w) w ks x b o
  | [], _, _, _, _, _, _ => trivial
  | k :: ks, x, [], b, o, h, _ => h.elim
  | k :: ks, x, v :: vs, b, o, h, hc => ⟨⟨v, hc 0 v rfl, h.1⟩, ROl_cells w ks x.2 vs b (o + 1) h.2 fun j u hu => by have := hc (j + 1) u (by simpa using hu); rwa [show o + 1 + j = o + (j + 1) by omega]⟩
theorem ROs_app (w : World) {Z : Nat → Prop} : ∀ (a b : List K) (cs cs' : List Value) (x : Tl a) (y : Tl b), ROs Z w a x cs → BgL a x → ROs Z w b y cs' → BgL b y → ∃ z : Tl (a ++ b), ROs Z w (a ++ b) z (cs ++ cs') ∧ BgL (a ++ b) z
  | [], b, [], cs', _, y, _, _, h, hb => ⟨y, h, hb⟩
  | [], b, _ :: _, cs', _, y, h, _, _, _ => h.elim
  | k :: a, b, [], cs', x, y, h, _, _, _ => h.elim
  | k :: a, b, v :: vs, cs', x, y, h, hx, h', hb => by
    obtain ⟨z, h1, h2⟩ := ROs_app w a b vs cs' x.2 y h.2 hx.2 h' hb
    exact ⟨(x.1, z), ⟨h.1, h1⟩, ⟨hx.1, h2⟩⟩
theorem choose_list {α : Type} (p : Nat → α → Prop) : ∀ (n : Nat), (∀ i, i < n → ∃ x, p i x) → ∃ xs : List α, xs.length = n ∧ ∀ i x, xs[i]? = some x → p i x
  | 0, _ => ⟨[], rfl, fun i x h => by simp at h⟩
  | n + 1, h => by
    obtain ⟨xs, h1, h2⟩ := choose_list p n fun i hi => h i (by omega)
    obtain ⟨x, hx⟩ := h n (by omega)
    refine ⟨xs ++ [x], by simp [h1], fun i y hy => ?_⟩
    by_cases hi : i < n
    · rw [List.getElem?_append_left (by omega)] at hy
      exact h2 i y hy
    · rw [List.getElem?_append_right (by omega), h1] at hy
      cases hk : i - n with
      | zero =>
        rw [hk] at hy
        simp only [List.getElem?_cons_zero, Option.some.injEq] at hy
        subst hy
        rwa [show i = n by omega]
      | succ k => rw [hk] at hy; simp at hy
theorem cells_get {base : Nat} {a : Addr} {n : Nat} {cs : List Value} (h : w.cells? base a n = some cs) : cs.length = n ∧ ∀ j v, cs[j]? = some v → w.cell? (a.add j) = some v := by
  unfold World.cells? at h
  split at h
  · refine ⟨by simpa using mapM_some_length h, fun j v hj => ?_⟩
    have hjl : j < n := by
      have := (List.getElem?_eq_some_iff.1 hj).1
      have h2 : cs.length = n := by simpa using mapM_some_length h
      omega
    have := mapM_some_get h j j (by simp [hjl])
    rw [this, hj]
  · simp at h
theorem cell_spot {a : Addr} {v : Value} (h : w.cell? a = some v) : a.spot = none ∧ a.block < w.heap.size := by
  unfold World.cell? at h
  split at h
  · rename_i c _ _ hb
    split at h
    · simp at h
    · rename_i hs
      refine ⟨by simpa using hs, ?_⟩
      rcases Nat.lt_or_ge a.block w.heap.size with hh | hh
      · exact hh
      · rw [Array.getElem?_eq_none hh] at hb; simp at hb
  · simp at h
theorem weightsAll_mem {e : TypeId} : ∀ (l : List (DataW H)) {d : DataW H}, d ∈ l → ∀ n ∈ d.weights P e, n ∈ DataW.weightsAll P e l
  | [], _, h, _, _ => by simp at h
  | x :: r, d, h, n, hn => by
    simp only [DataW.weightsAll, List.mem_append]
    rcases List.mem_cons.1 h with h | h
    · subst h; exact .inl hn
    · exact .inr (weightsAll_mem r h n hn)
theorem ROs_joined {ks a : List K} {cs : List Value} {m o : Nat} (hk : ks.take m = a) (hm : a.length = m) {x : Tl a} {y : Tl (ks.drop m)} (x1 : ROs (Zall w) w a x ((cs.drop o).take m)) (x2 : BgL a x) (y1 : ROs (Zall w) w (ks.drop m) y (cs.drop (o + m))) (y2 : BgL (ks.drop m) y) : ∃ z : Tl ks, ROs (Zall w) w ks z (cs.drop o) ∧ BgL ks z := by
  have h := ROs_app w _ _ _ _ x y x1 x2 y1 y2
  have e1 : a ++ ks.drop m = ks := by rw [← hk]; exact List.take_append_drop m ks
  have e2 : (cs.drop o).take m ++ cs.drop (o + m) = cs.drop o := by rw [← List.drop_drop, List.take_append_drop]
  rw [e1, e2] at h
  exact h
theorem trod_RO (hT : TTok P E) : ∀ (n t : Nat) (ti : TI), rdB E n t = true → E.ti t = some ti → ∀ (fuel : Nat) (cs : List Value) (d : DataW H) (ps : List MemPlace), DataW.trod enc P w 0 spare held fuel t cs = some (d, ps) → (∀ m ∈ d.weights P t, m ≤ big) → ∃ x : Tl ti.ks, ROs (Zall w) w ti.ks x cs ∧ BgL ti.ks x := by
  intro n
  induction n with
  | zero => intro t ti h; simp [rdB] at h
  | succ n ih =>
    intro t ti hrd hti fuel cs d ps htr hw
    have hTi := hT t ti hti
    obtain ⟨dd, hu, hdd⟩ := hTi.desc
    unfold rdB at hrd
    rw [hti] at hrd
    simp only at hrd
    obtain ⟨inf, hinf, hsz, _⟩ := hTi.info
    have hcell : P.cellsOf t = ti.ks.length := by simp [Program.cellsOf, hinf, hsz]
    cases dd with
    | bool =>
      obtain ⟨hag, hks⟩ := hdd
      obtain ⟨b, rfl, _⟩ := DataW.trod_bool hu htr
      rw [hks]
      exact ⟨(b, ()), ⟨rfl, trivial⟩, ⟨trivial, trivial⟩⟩
    | int k =>
      obtain ⟨hag, hks⟩ := hdd
      obtain ⟨v, rfl, _, hwf⟩ := DataW.trod_int hu htr
      rw [hks]
      refine ⟨(v, ()), ⟨⟨rfl, ?_⟩, trivial⟩, ⟨trivial, trivial⟩⟩
      simpa [Lit.wf, inR] using hwf
    | string =>
      obtain ⟨hag, hks⟩ := hdd
      obtain ⟨v, rfl, hx, _⟩ := DataW.trod_string hu htr
      simp only [Prod.mk.injEq] at hx
      obtain ⟨rfl, _⟩ := hx
      rw [hks]
      have hl := hw v.data.toList.length (by simp [DataW.weights])
      exact ⟨(v.data.toList, ()), ⟨⟨by simp [mkS], hl⟩, trivial⟩, ⟨hl, trivial⟩⟩
    | slice e =>
      obtain ⟨hag, ks, hks, hel⟩ := hdd
      obtain ⟨ag, kk, el, by', fl⟩ := ti
      simp only at hks hel hag
      subst hks
      subst hel
      subst hag
      simp only at hrd
      cases hte : E.ti el with
      | none => rw [hte] at hrd; simp at hrd
      | some te =>
      rw [hte] at hrd
      simp only [Bool.and_eq_true] at hrd
      obtain ⟨r1, r2, r3, r4⟩ := hrd
      have hkk := K.sames_eq _ _ r1
      subst hkk
      have hby : 0 < te.bytes := Nat.lt_of_succ_le (Nat.le_of_ble_eq_true r2)
      have hkl : 0 < te.ks.length := Nat.lt_of_succ_le (Nat.le_of_ble_eq_true r3)
      obtain ⟨inf2, hinf2, hsz2, hby2, _⟩ := (hT el te hte).info
      have hce : P.cellsOf el = te.ks.length := by simp [Program.cellsOf, hinf2, hsz2]
      have hbe : P.bytesOf el = te.bytes := by simp [Program.bytesOf, hinf2, hby2]
      rcases DataW.trod_slice hu htr with ⟨rfl, _⟩ | ⟨a, len, cap, elems, rest, m, _, rfl, hx, _, hlc, hcm, hlen, hel, _⟩
      · exact ⟨(([] : List (Tl te.ks)), ()), ⟨⟨none, 0, rfl, Nat.le_refl _, Nat.zero_le _, fun _ => rfl, fun h => absurd rfl h⟩, trivial⟩, ⟨⟨Nat.zero_le _, fun y hy => by simp [els] at hy⟩, trivial⟩⟩
      · simp only [Prod.mk.injEq] at hx
        obtain ⟨rfl, _⟩ := hx
        have hwl : (elems.length + rest.length) * te.bytes ≤ big := by
          have := hw ((elems.length + rest.length) * P.bytesOf el) (by simp [DataW.weights, hu])
          rwa [hbe] at this
        have hlb : len ≤ big := by
          have := Nat.le_mul_of_pos_right (elems.length + rest.length) hby
          omega
        rw [hce] at hel
        have hone : ∀ i, i < len → ∃ x : Tl te.ks, (a.spot = none ∨ 0 < i) ∧ (∃ cells, w.cells? 0 (a.add (i * te.ks.length)) te.ks.length = some cells ∧ ROs (Zall w) w te.ks x cells) ∧ BgL te.ks x := fun i hi => by
          have h1 := hel i hi
          have hei : elems[i]? = some (elems[i]'(by omega)) := List.getElem?_eq_getElem (by omega)
          rw [hei] at h1
          obtain ⟨cells, hc1, hc2⟩ := Option.bind_eq_some_iff.1 h1
          obtain ⟨x, hx1, hx2⟩ := ih el te r4 hte m cells _ _ hc2 fun q hq => hw q (by
            simp only [DataW.weights, hu, List.mem_cons, List.mem_append]
            right; left
            exact weightsAll_mem (elems.map (·.1)) (List.mem_map.2 ⟨_, List.getElem_mem (by omega : i < elems.length), rfl⟩) q hq)
          refine ⟨x, ?_, ⟨cells, hc1, hx1⟩, hx2⟩
          rcases Nat.eq_zero_or_pos i with h0 | h0
          · left
            subst h0
            obtain ⟨g1, g2⟩ := cells_get hc1
            obtain ⟨v, hv⟩ : ∃ v, cells[0]? = some v := ⟨cells[0]'(by omega), List.getElem?_eq_getElem (by omega)⟩
            have := g2 0 v hv
            simp [Addr.add] at this
            exact (cell_spot this).1
          · exact .inr h0
        obtain ⟨xs, hxl, hxs⟩ := choose_list _ len hone
        refine ⟨((xs : List (Tl te.ks)), ()), ⟨⟨some a, cap, by show Value.slice (some a) len cap = .slice (some a) xs.length cap; rw [hxl], by show xs.length ≤ cap; omega, by show xs.length ≤ big; omega, fun h => by simp at h, fun hne => ?_⟩, trivial⟩, ⟨⟨by show xs.length ≤ big; omega, fun y hy => ?_⟩, trivial⟩⟩
        · have hpos : 0 < xs.length := List.length_pos_iff.2 hne
          have hx0 := hxs 0 _ (List.getElem?_eq_getElem hpos)
          have hsp : a.spot = none := by
            rcases hx0.1 with h | h
            · exact h
            · omega
          obtain ⟨ab, ao, asp⟩ := a
          simp only at hsp
          subst hsp
          have hadd : ∀ o k, (⟨ab, o, none⟩ : Addr).add k = ⟨ab, o + k, none⟩ := fun o k => by
            unfold Addr.add
            split
            · rename_i h; subst h; rfl
            · rfl
          have hblk : ab < w.heap.size := by
            obtain ⟨_, ⟨cells, hc1, hc2⟩, _⟩ := hx0
            obtain ⟨g1, g2⟩ := cells_get hc1
            obtain ⟨v, hv⟩ : ∃ v, cells[0]? = some v := ⟨cells[0]'(by omega), List.getElem?_eq_getElem (by omega)⟩
            have := g2 0 v hv
            rw [hadd, hadd] at this
            exact (cell_spot this).2
          refine ⟨ab, ao, rfl, hblk, hblk, fun i x hi => ?_⟩
          obtain ⟨_, ⟨cells, hc1, hc2⟩, _⟩ := hxs i x hi
          obtain ⟨g1, g2⟩ := cells_get hc1
          refine ROl_cells w te.ks x cells ab (ao + i * te.ks.length) hc2 fun j v hj => ?_
          have := g2 j v hj
          rw [hadd, hadd] at this
          exact this
        · obtain ⟨i, hi⟩ := List.getElem?_of_mem hy
          exact (hxs i y hi).2.2
    | struct fs =>
      obtain ⟨hag, hfl, _⟩ := hdd
      rw [hag] at hrd
      simp only at hrd
      obtain ⟨xs, m, _, hx, hlen, hxl, hget⟩ := DataW.trod_struct hu htr
      simp only [Prod.mk.injEq] at hx
      obtain ⟨rfl, _⟩ := hx
      rw [hcell] at hlen
      have key : ∀ (l : List (Nat × Nat)) (ks : List K) (off i : Nat), (∀ j, fld l j = fld ti.flds (i + j)) → off + ks.length = ti.ks.length → flB E (rdB E n) l ks off = true → ∃ x : Tl ks, ROs (Zall w) w ks x (cs.drop off) ∧ BgL ks x := by
        intro l
        induction l with
        | nil =>
          intro ks off i hf ho hb
          cases ks with
          | nil =>
            rw [List.drop_of_length_le (by simp at ho; omega)]
            exact ⟨(), trivial, trivial⟩
          | cons k ks => simp [flB] at hb
        | cons p r ihl =>
          intro ks off i hf ho hb
          obtain ⟨o, u⟩ := p
          have hb' : (Nat.beq o off && (rdB E n u && match E.ti u with
            | some tu => K.sames (ks.take tu.ks.length) tu.ks && (Nat.ble tu.ks.length ks.length && flB E (rdB E n) r (ks.drop tu.ks.length) (off + tu.ks.length))
            | none => false)) = true := by
            cases ks <;> exact hb
          simp only [Bool.and_eq_true] at hb'
          obtain ⟨b1, b2, b3⟩ := hb'
          cases htu : E.ti u with
          | none => rw [htu] at b3; simp at b3
          | some tu =>
          rw [htu] at b3
          simp only [Bool.and_eq_true] at b3
          obtain ⟨b3, b4, b5⟩ := b3
          have ho' := beq_eq b1
          subst ho'
          have hks := K.sames_eq _ _ b3
          have hkl : tu.ks.length ≤ ks.length := Nat.le_of_ble_eq_true b4
          have h0 := hf 0
          rw [Nat.add_zero] at h0
          obtain ⟨fi, f1, f2, f3⟩ := hfl i o u h0.symm
          have hg := hget i fi f1
          rw [f2, f3] at hg
          obtain ⟨inu, hinu, hsu, _⟩ := (hT u tu htu).info
          have hcu : P.cellsOf u = tu.ks.length := by simp [Program.cellsOf, hinu, hsu]
          rw [hcu] at hg
          have hil : i < xs.length := by rw [hxl]; exact (Array.getElem?_eq_some_iff.1 f1).1
          rw [List.getElem?_eq_getElem hil] at hg
          obtain ⟨x, x1, x2⟩ := ih u tu b2 htu m _ _ _ hg fun q hq => hw q (by
            simp only [DataW.weights, hu]
            refine DataW.weights_mem_each (j := i) (t := u) (d := xs[i].1) ?_ ?_ q hq
            · rw [List.getElem?_map, Array.getElem?_toList, f1, Option.map_some, f3]
            · rw [List.getElem?_map, List.getElem?_eq_getElem hil]; rfl)
          obtain ⟨y, y1, y2⟩ := ihl (ks.drop tu.ks.length) (o + tu.ks.length) (i + 1) (fun j => by rw [show i + 1 + j = i + (j + 1) by omega, ← hf (j + 1)]; rfl) (by rw [List.length_drop]; omega) b5
          exact ROs_joined hks rfl x1 x2 y1 y2
      obtain ⟨x, x1, x2⟩ := key ti.flds ti.ks 0 0 (fun j => by rw [Nat.zero_add]) (by omega) hrd
      exact ⟨x, x1, x2⟩
    | _ => exact hdd.elim
end
end Go.Av
namespace Go.Av
open Go.RowKit (Below)
def psB (E : En) : List Nat → List PK → Bool
  | [], [] => true
  | t :: ts, .c g ks :: ps => (match E.ti t with | some ti => boolEq g ti.agg && (K.sames ks ti.ks && rdB E 30 t) | none => false) && psB E ts ps
  | _, _ => false
def BgP : (ps : List PK) → PT ps → Prop
  | [], _ => True
  | .c _ ks :: ps, x => BgL ks x.1 ∧ BgP ps x.2
  | .pt _ :: ps, x => BgP ps x.2
  | .nil :: ps, x => BgP ps x
  | .fn _ _ :: ps, x => BgP ps x.2
  | .io _ _ :: ps, x => BgP ps x.2
  | .mv _ :: ps, x => BgP ps x.2
section
variable {H : Type} {enc : TypeId × Value → H} {P : Program} {w : World} {spare : Nat → Bool} {held : Bool} {E : En}
theorem arg_RO (hT : TTok P E) {t : Nat} {ti : TI} (hr : rdB E 30 t = true) (hti : E.ti t = some ti) {base : Nat} {v : Value} (hv : Value.okWide P w .any base t v) {d : DataW H} {p : List MemPlace} (h : DataW.Trod enc P w 0 spare held t v d p) (hw : ∀ m ∈ d.weights P t, m ≤ big) :
    ∃ x : Tl ti.ks, ROv (Zall w) w ti.agg ti.ks x v ∧ BgL ti.ks x := by
  obtain ⟨fuel, h⟩ := h
  obtain ⟨x, h1, h2⟩ := trod_RO hT 30 t ti hr hti fuel _ d p h hw
  refine ⟨x, ⟨v.cells.toList, ?_, h1⟩, h2⟩
  obtain ⟨dd, hu, hdd⟩ := (hT t ti hti).desc
  unfold Value.okWide at hv
  rw [hu] at hv
  cases dd with
  | struct fs =>
    obtain ⟨cs, rfl, _⟩ := hv
    rw [hdd.1]
    show Value.agg cs = .agg cs.toList.toArray
    simp
  | bool =>
    rw [hdd.1]
    unfold Cell.okWide at hv
    rw [hu] at hv
    cases v <;> first | rfl | exact (by simp [Cell.ok, hu] at hv)
  | int k =>
    rw [hdd.1]
    unfold Cell.okWide at hv
    rw [hu] at hv
    cases v <;> first | rfl | exact (by simp [Cell.ok, hu] at hv)
  | string =>
    rw [hdd.1]
    unfold Cell.okWide at hv
    rw [hu] at hv
    cases v <;> first | rfl | exact (by simp [Cell.ok, hu] at hv)
  | slice e =>
    rw [hdd.1]
    unfold Cell.okWide at hv
    rw [hu] at hv
    cases v <;> first | rfl | exact (by simp [Cell.ok, hu] at hv)
  | _ => exact hdd.elim
theorem trod_len {base : Nat} {spare : Nat → Bool} {held : Bool} : ∀ (ts : List Nat) (vs : List Value) (ds : List (DataW H)) (pl : List MemPlace), DataW.TrodAll enc P w base spare held ts vs ds pl → ds.length = ts.length
  | [], [], [], _, _ => rfl
  | t :: ts, v :: vs, d :: ds, _, h => by
    obtain ⟨p, q, _, h2, _⟩ := h
    simp [trod_len ts vs ds q h2]
  | [], _ :: _, _, _, h => h.elim
  | [], [], _ :: _, _, h => h.elim
  | _ :: _, [], _, _, h => h.elim
  | _ :: _, _ :: _, [], _, h => h.elim
theorem args_all (hT : TTok P E) {base : Nat} : ∀ (ts : List Nat) (ps : List PK), psB E ts ps = true → ∀ (vs : List Value) (ds : List (DataW H)) (pl : List MemPlace) (n : Nat), DataW.TrodAll enc P w 0 spare held ts vs ds pl → (∀ (j : Nat) t v, ts[j]? = some t → vs[j]? = some v → Value.okWide P w .any base t v) →
      (∀ m ∈ DataW.weightsEach P ts ds, m ≤ big) → ∃ x : PT ps, ArgsR (Zall w) w (fun _ _ => False) ps x vs n ∧ BgP ps x
  | [], [], _, [], [], pl, n, h, hv, hw => ⟨(), trivial, trivial⟩
  | [], [], _, _ :: _, _, pl, n, h, hv, hw => h.elim
  | [], [], _, [], _ :: _, pl, n, h, hv, hw => h.elim
  | t :: ts, .c g ks :: ps, hp, [], ds, pl, n, h, hv, hw => h.elim
  | t :: ts, .c g ks :: ps, hp, _ :: _, [], pl, n, h, hv, hw => h.elim
  | t :: ts, .c g ks :: ps, hp, v :: vs, d :: ds, pl, n, h, hv, hw => by
    obtain ⟨p, q, h1, h2, _⟩ := h
    unfold psB at hp
    simp only [Bool.and_eq_true] at hp
    obtain ⟨hp1, hp2⟩ := hp
    cases hti : E.ti t with
    | none => rw [hti] at hp1; simp at hp1
    | some ti =>
      rw [hti] at hp1
      simp only [Bool.and_eq_true] at hp1
      obtain ⟨b1, b2, b3⟩ := hp1
      have e1 := boolEq_eq b1
      have e2 := K.sames_eq _ _ b2
      subst e1
      subst e2
      obtain ⟨x, x1, x2⟩ := arg_RO hT b3 hti (hv 0 t v rfl rfl) h1 (fun m hm => hw m (by simp only [DataW.weightsEach, List.mem_append]; exact .inl hm))
      obtain ⟨y, y1, y2⟩ := args_all hT ts ps hp2 vs ds q n h2 (fun j t' v' ht hv' => hv (j + 1) t' v' (by simpa using ht) (by simpa using hv')) (fun m hm => hw m (by simp only [DataW.weightsEach, List.mem_append]; exact .inr hm))
      exact ⟨(x, y), ⟨x1, y1⟩, ⟨x2, y2⟩⟩
  | [], .c _ _ :: _, hp, _, _, _, _, _, _, _ => by simp [psB] at hp
  | [], .pt _ :: _, hp, _, _, _, _, _, _, _ => by simp [psB] at hp
  | [], .nil :: _, hp, _, _, _, _, _, _, _ => by simp [psB] at hp
  | [], .fn _ _ :: _, hp, _, _, _, _, _, _, _ => by simp [psB] at hp
  | [], .io _ _ :: _, hp, _, _, _, _, _, _, _ => by simp [psB] at hp
  | [], .mv _ :: _, hp, _, _, _, _, _, _, _ => by simp [psB] at hp
  | _ :: _, [], hp, _, _, _, _, _, _, _ => by simp [psB] at hp
  | _ :: _, .pt _ :: _, hp, _, _, _, _, _, _, _ => by simp [psB] at hp
  | _ :: _, .nil :: _, hp, _, _, _, _, _, _, _ => by simp [psB] at hp
  | _ :: _, .fn _ _ :: _, hp, _, _, _, _, _, _, _ => by simp [psB] at hp
  | _ :: _, .io _ _ :: _, hp, _, _, _, _, _, _, _ => by simp [psB] at hp
  | _ :: _, .mv _ :: _, hp, _, _, _, _, _, _, _ => by simp [psB] at hp
theorem resR_bool {fresh : Bool} {Z : Nat → Prop} {w : World} {H : Nat → Nat → Prop} {b : Bool} : ∀ {vs : List Value}, ResR fresh Z w H [(false, [.bool])] ((b, ()), ()) vs 0 → vs = [.bool b]
  | [], h => h.elim
  | [v], h => by
    obtain ⟨⟨cs, hc, hcells⟩, _⟩ := h
    have hc : cs = [v] := hc
    subst hc
    have hv : v = .bool b := hcells.1
    rw [hv]
  | _ :: _ :: _, h => h.2.elim
theorem law_calls {f : Nat} {fn : Func} {c : Code} {s : Su} (hsu : SuOK P f s) (hf : P.funcs[f]? = some fn) (hname : (fn.name == "runtime.NumGoroutine") = false) (hb : fn.body = some c)
    (hgl : Gl P w (Zall w)) {args : Array Value} {x : PT s.ps} (hargs : ArgsR (Zall w) w (fun _ _ => False) s.ps x args.toList 0)
    (hlaw : ∃ y, s.ans x = some y ∧ ∀ (Z : Nat → Prop) (w' : World) (H : Nat → Nat → Prop) (vs : List Value), ResR s.fresh Z w' H s.rs y.2 vs 0 → vs = [.bool true]) :
    Calls P f args w fun e w' => e = .returned (.bool true) ∧ Below w.heap.size w w' := by
  obtain ⟨y, hy, hres⟩ := hlaw
  have h := hsu w (Zall w) (fun _ _ => False) args x y hgl hargs (fun b hb => hb) (fun i b hb => hb.elim) (fun i j b hb => hb.elim) hy
  rw [MuLone.run_callFunc_enter hf hname hb] at h
  have h : Calls P f args w _ := h
  refine h.mono fun e w' he => ?_
  cases e with
  | returned v =>
    obtain ⟨Z', H', vs, rfl, ha, _, hr⟩ := he
    have hvs := hres Z' w' _ vs hr
    subst hvs
    exact ⟨rfl, ha.os, ha.tape, ha.output, ha.size, fun k hk => ha.block k hk fun i hi => hi⟩
  | _ => exact he.elim
theorem Below.trodAll (hl : laidOutB P = true) {W W' : World} (hb : Below W.heap.size W W') : ∀ (ts : List TypeId) (vs : List Value) (ds : List (DataW H)) (ps : List MemPlace), (∀ t ∈ ts, P.readableRec t = true ∧ t < P.types.size) → DataW.TrodAll enc P W 0 (fun _ => true) true ts vs ds ps → (∀ x ∈ ps, x.block < W.heap.size) → DataW.TrodAll enc P W' 0 (fun b => decide (b < W.heap.size)) true ts vs ds ps
  | [], [], [], ps, _, h, _ => h
  | t :: ts, v :: vs, d :: ds, ps, ht, h, hlt => by
    obtain ⟨p, q, h1, h2, rfl⟩ := h
    exact ⟨p, q, Below.trod hl (ht t (List.mem_cons_self ..)).1 (ht t (List.mem_cons_self ..)).2 h1 hb (fun x hx => hlt x (List.mem_append_left _ hx)), Below.trodAll hl hb ts vs ds q (fun t ht' => ht t (List.mem_cons_of_mem _ ht')) h2 (fun x hx => hlt x (List.mem_append_right _ hx)), rfl⟩
  | [], _ :: _, _, _, _, h, _ => h.elim
  | [], [], _ :: _, _, _, h, _ => h.elim
  | _ :: _, [], _, _, _, h, _ => h.elim
  | _ :: _, _ :: _, [], _, _, h, _ => h.elim
theorem law_post {fn : Func} {s : ChangeSpec} (hl : laidOutB P = true) (hvars : s.vars = []) {rt : TypeId} (hrt : fn.resultTypes = #[rt]) (hru : P.underlying rt = some .bool) (hpar : ∀ t ∈ fn.params.toList, P.readableRec t = true ∧ t < P.types.size)
    {W W' : World} {args : Array Value} {ds gs : List (DataW H)} {before : List MemPlace} (hW : DataW.Whole enc P fn.params.toList s.vars false W args.toList ds gs before) (hb : Below W.heap.size W W')
    (hs : s.fn H (ds ++ gs) = { results := [.lit (.bool true)], args := ds }) : s.post enc P fn false true false false W args (.bool true) W' := by
  have hlt := hW.lt
  have hW0 := hW
  obtain ⟨p, q, hA, hV, rfl, _, _⟩ := hW
  rw [hvars] at hV
  obtain ⟨rfl, rfl⟩ : gs = [] ∧ q = [] := by
    cases gs with
    | nil => exact ⟨rfl, hV⟩
    | cons _ _ => exact hV.elim
  refine ⟨ds, [], _, [], p, [], hW0, ?_, ?_, ?_, hb.frame _, fun h => by simp at h⟩
  · rw [hs, hrt]
    exact ⟨[], [], Go.RowKit.shut_bool hru true, rfl, rfl⟩
  · rw [hs]
    exact Below.trodAll hl hb _ _ _ _ hpar hA fun x hx => by have := hlt x (List.mem_append_left _ hx); simpa using this
  · rw [hs, hvars]
    rfl
end
end Go.Av
namespace Go.Av
structure Swo {α : Type} (lt : α → α → Bool) : Prop where
  irr : ∀ a, lt a a = false
  trans : ∀ a b c, lt a b = true → lt b c = true → lt a c = true
  neg : ∀ a b c, lt a c = true → lt a b = true ∨ lt b c = true
def eqv {α : Type} (lt : α → α → Bool) (a b : α) : Bool := !lt a b && !lt b a
def Stb {α : Type} (lt : α → α → Bool) (xs ys : List α) : Prop := xs.length = ys.length ∧ ∀ z, xs.filter (eqv lt z) = ys.filter (eqv lt z)
section
variable {α : Type} {lt : α → α → Bool}
theorem eqv_self (h : Swo lt) (a : α) : eqv lt a a = true := by simp [eqv, h.irr]
theorem eqv_iff {a b : α} : eqv lt a b = true ↔ lt a b = false ∧ lt b a = false := by simp [eqv]
theorem Swo.le_trans (h : Swo lt) {a b c : α} (h1 : lt b a = false) (h2 : lt c b = false) : lt c a = false := by
  cases hc : lt c a with
  | false => rfl
  | true => rcases h.neg c b a hc with h3 | h3 <;> simp_all
theorem eqv_trans (h : Swo lt) {a b c : α} (h1 : eqv lt a b = true) (h2 : eqv lt b c = true) : eqv lt a c = true := by
  rw [eqv_iff] at *
  exact ⟨h.le_trans h2.1 h1.1, h.le_trans h1.2 h2.2⟩
theorem eqv_symm {a b : α} (h : eqv lt a b = true) : eqv lt b a = true := by
  rw [eqv_iff] at *; exact ⟨h.2, h.1⟩
theorem Stb.refl (xs : List α) : Stb lt xs xs := ⟨rfl, fun _ => rfl⟩
theorem Stb.symm {xs ys : List α} (h : Stb lt xs ys) : Stb lt ys xs := ⟨h.1.symm, fun z => (h.2 z).symm⟩
theorem Stb.trans {xs ys zs : List α} (h1 : Stb lt xs ys) (h2 : Stb lt ys zs) : Stb lt xs zs := ⟨h1.1.trans h2.1, fun z => (h1.2 z).trans (h2.2 z)⟩
theorem Stb.append {a b c d : List α} (h1 : Stb lt a b) (h2 : Stb lt c d) : Stb lt (a ++ c) (b ++ d) := ⟨by simp [h1.1, h2.1], fun z => by simp [h1.2 z, h2.2 z]⟩
theorem Stb.mem (h : Swo lt) {xs ys : List α} (hs : Stb lt xs ys) {x : α} : x ∈ xs ↔ x ∈ ys := by
  have key : ∀ {xs ys : List α}, Stb lt xs ys → x ∈ xs → x ∈ ys := fun {xs ys} hs hx => by
    have : x ∈ xs.filter (eqv lt x) := List.mem_filter.2 ⟨hx, eqv_self h x⟩
    rw [hs.2 x] at this
    exact (List.mem_filter.1 this).1
  exact ⟨key hs, key hs.symm⟩
theorem Stb.swap (h : Swo lt) {a b : List α} (hab : ∀ x ∈ a, ∀ y ∈ b, lt y x = true) : Stb lt (a ++ b) (b ++ a) := by
  refine ⟨by simp [Nat.add_comm], fun z => ?_⟩
  rw [List.filter_append, List.filter_append]
  by_cases ha : a.filter (eqv lt z) = []
  · rw [ha]; simp
  · by_cases hb : b.filter (eqv lt z) = []
    · rw [hb]; simp
    · exfalso
      obtain ⟨x, hx⟩ := List.exists_mem_of_ne_nil _ ha
      obtain ⟨y, hy⟩ := List.exists_mem_of_ne_nil _ hb
      have hx := List.mem_filter.1 hx
      have hy := List.mem_filter.1 hy
      have := eqv_trans h (eqv_symm hx.2) hy.2
      rw [eqv_iff] at this
      rw [hab x hx.1 y hy.1] at this
      simp at this
end
end Go.Av
namespace Go.Av
end Go.Av
namespace Go.Av
open Go.RowKit (Below)
open Go.Shelf Go.Proofs Go.Lib
section
variable {P : Program} {w w' : World} {Z Z' : Nat → Prop} {F G : Nat → Nat → Prop}
theorem ioR_none : ∀ (ps : List PK) (x : PT ps) (y : IOT ps) (vs : List Value) (n m : Nat), ArgsR Z w F ps x vs n → hasIo ps = false → IoR Z' w' G ps y vs m
  | [], _, _, [], _, _, _, _ => trivial
  | [], _, _, _ :: _, _, _, h, _ => h.elim
  | .c _ _ :: ps, x, y, v :: vs, n, m, h, hi => ioR_none ps x.2 y vs n m h.2 hi
  | .pt _ :: ps, x, y, v :: vs, n, m, h, hi => ioR_none ps x.2 y vs n m h.2 hi
  | .nil :: ps, x, y, v :: vs, n, m, h, hi => ioR_none ps x y vs n m h.2 hi
  | .fn _ _ :: ps, x, y, v :: vs, n, m, h, hi => ioR_none ps x.2 y vs n m h.2 hi
  | .mv _ :: ps, x, y, v :: vs, n, m, h, hi => ioR_none ps x.2 y vs (n + 1) (m + 1) h.2 hi
  | .io _ _ :: ps, _, _, _, _, _, _, hi => by simp [hasIo] at hi
  | .c _ _ :: _, _, _, [], _, _, h, _ => h.elim
  | .pt _ :: _, _, _, [], _, _, h, _ => h.elim
  | .nil :: _, _, _, [], _, _, h, _ => h.elim
  | .fn _ _ :: _, _, _, [], _, _, h, _ => h.elim
  | .mv _ :: _, _, _, [], _, _, h, _ => h.elim
def LibPost (w : World) (Z : Nat → Prop) (s : Su) (y : CT s.rs) (e : Ending) (w' : World) : Prop :=
  ∃ (vs : List Value) (H : Nat → Nat → Prop), e = .returned (wrapV vs) ∧ Below w.heap.size w w' ∧ (∀ n b, H n b → w.heap.size ≤ b ∧ b < w'.heap.size) ∧ (∀ n m b, H n b → H m b → n = m) ∧ ResR s.fresh Z w' H s.rs y vs 0
theorem lib_ok {f : Nat} {fn : Func} {c : Code} {s : Su} (hf : P.funcs[f]? = some fn) (hname : (fn.name == "runtime.NumGoroutine") = false) (hb : fn.body = some c) (hio : hasIo s.ps = false)
    (h : ∀ (w : World) (Z : Nat → Prop) (F : Nat → Nat → Prop) (args : Array Value) (x : PT s.ps) (y : IOT s.ps × CT s.rs), Gl P w Z → (∀ b, Z b → b < w.heap.size) → ArgsR Z w F s.ps x args.toList 0 → s.ans x = some y → Calls P f args w (LibPost w Z s y.2)) : SuOK P f s := by
  intro w Z F args x y hgl hargs hZ hF hd hy
  rw [MuLone.run_callFunc_enter hf hname hb]
  show Calls P f args w _
  refine (h w Z F args x y hgl hZ hargs hy).mono fun e w' ⟨vs, H, he, hb, h1, h2, hr⟩ => ?_
  subst he
  refine ⟨Z, fun n b => ∃ j, n = 2 * j + 1 ∧ H j b, vs, rfl, ?_, ioR_none _ x _ _ 0 0 hargs hio, ResR.mono (fun n b hb => ⟨n, rfl, hb⟩) _ _ _ _ hr⟩
  exact { os := hb.os, tape := hb.tape, output := hb.output, size := hb.size
          block := fun b hlt _ => hb.block b hlt
          z := fun b hb => hb
          zone := fun b hz => ⟨Nat.lt_of_lt_of_le (hZ b hz) hb.size, .inl hz⟩
          fp := fun n b ⟨j, _, hh⟩ => ⟨(h1 j b hh).2, fun hz => by have := hZ b hz; have := (h1 j b hh).1; omega, .inr (h1 j b hh).1⟩
          disj := fun n m b ⟨j, e1, h3⟩ ⟨j', e2, h4⟩ => by have := h2 j j' b h3 h4; omega }
theorem gl_tab {nm : String} {k : IntKind} {zs : List Int} (h : Gl P w Z) (hm : (nm, tabP k zs) ∈ gl0) {g : Nat} (hg : P.globalNamed nm = some g) : Lib.TabIs P w nm k zs := by
  obtain ⟨⟨e, fr, h1⟩, _, _⟩ := h _ hm g hg
  simp only [Lib.TabIs, World.var?, hg, Option.bind_some, h1]
theorem resStr {fr : Bool} {s : List UInt8} (h : s.length ≤ big) : ResR fr Z w (fun _ _ => False) [(false, [.str])] ((s, ()), ()) [.string ⟨s.toArray⟩] 0 :=
  ⟨⟨[.string ⟨s.toArray⟩], rfl, ⟨rfl, h⟩, trivial⟩, trivial⟩
theorem arg_int {k : IntKind} {x : Tl [K.int k]} {v : Value} (h : ROv Z w false [.int k] x v) : v = .int k x.1 ∧ inR k x.1 := by
  obtain ⟨cs, e, h⟩ := h
  have e : cs = [v] := e
  subst e
  exact h.1
theorem arg_str {x : Tl [K.str]} {v : Value} (h : ROv Z w false [.str] x v) : v = .string (mkS x.1) ∧ x.1.length ≤ big := by
  obtain ⟨cs, e, h⟩ := h
  have e : cs = [v] := e
  subst e
  exact h.1
def itoaG (n : Int) : Option (Unit × ((List UInt8) × Unit) × Unit) := some ((), ((Lib.itoa n, ()), ()))
theorem itoa_ok {ρ : Ren} (L : LaysM.n171 P ρ) {f : Nat} (hf : f = ρ.f 171) {fn : Func} {c : Code} (h1 : P.funcs[f]? = some fn) (hname : (fn.name == "runtime.NumGoroutine") = false) (hb : fn.body = some c) : SuOK P f ⟨[.c false [.int .i64]], [(false, [.str])], true, .inl fun x => itoaG x.1.1⟩ := by
  subst hf
  refine lib_ok h1 hname hb rfl fun w Z F args x y hgl hZ hargs hy => ?_
  have hy : itoaG x.1.1 = some y := hy
  obtain rfl := Option.some.inj hy
  match hl : args.toList, hargs with
  | [v], ⟨hv, _⟩ =>
    obtain ⟨rfl, hr⟩ := arg_int hv
    obtain rfl : args = #[.int .i64 x.1.1] := by rw [← Array.toArray_toList (xs := args), hl]
    obtain ⟨⟨n, _⟩, _⟩ := x
    change Int at n
    have hr : (-9223372036854775808 : Int) ≤ n ∧ n ≤ 9223372036854775807 := hr
    refine (Any.strconv_Itoa L n hr.1 hr.2 w (gl_tab hgl (by simp [gl0]) L.m17)).mono fun e w' ⟨he, k, os, hw⟩ => ?_
    subst he hw
    refine ⟨[_], fun _ _ => False, rfl, below_grow _ w (Nat.le_refl _) k os, fun _ _ h => h.elim, fun _ _ _ h => h.elim, resStr ?_⟩
    exact Nat.le_trans (itoa_length_le _ hr.1 hr.2) (by decide)
  | [], h => exact h.elim
  | _ :: _ :: _, h => exact h.2.elim
def repeatG (s : List UInt8) (n : Int) : Option (Unit × ((List UInt8) × Unit) × Unit) := cond (leI 0 n && Nat.ble (s.length * n.toNat) big) (some ((), ((Lib.repeatL s n.toNat, ()), ()))) none
theorem repeat_ok {ρ : Ren} (L : Lays.n105 P ρ) (X : Builder.Extra P ρ) {f : Nat} (hf : f = ρ.f 105) {fn : Func} {c : Code} (h1 : P.funcs[f]? = some fn) (hname : (fn.name == "runtime.NumGoroutine") = false) (hb : fn.body = some c) : SuOK P f ⟨[.c false [.str], .c false [.int .i64]], [(false, [.str])], true, .inl fun x => repeatG x.1.1 x.2.1.1⟩ := by
  subst hf
  refine lib_ok h1 hname hb rfl fun w Z F args x y hgl hZ hargs hy => ?_
  have hy : repeatG x.1.1 x.2.1.1 = some y := hy
  match hl : args.toList, hargs with
  | [v, u], ⟨hv, hu, _⟩ =>
    obtain ⟨rfl, hr⟩ := arg_str hv
    obtain ⟨rfl, hr2⟩ := arg_int hu
    obtain rfl : args = #[.string (mkS x.1.1), .int .i64 x.2.1.1] := by rw [← Array.toArray_toList (xs := args), hl]
    obtain ⟨⟨s, _⟩, ⟨n, _⟩, _⟩ := x
    change List UInt8 at s
    change Int at n
    simp only [repeatG] at hy
    cases hc : leI 0 n && Nat.ble (s.length * n.toNat) big with
    | false => simp [hc] at hy
    | true =>
      rw [hc] at hy
      obtain rfl := Option.some.inj hy
      simp only [Bool.and_eq_true] at hc
      have h0 : 0 ≤ n := by simpa [leI] using hc.1
      have hb : s.length * n.toNat ≤ 140737488355328 := Nat.le_of_ble_eq_true hc.2
      obtain ⟨k, rfl⟩ : ∃ k : Nat, n = k := ⟨n.toNat, by omega⟩
      have hk : (k : Int) ≤ 9223372036854775807 := hr2.2
      refine (Any.strings_Repeat L X (mkS s) k w (by omega) (by simpa [mkS, ByteArray.size] using hb)).mono fun e w' ⟨he, hbe⟩ => ?_
      subst he
      refine ⟨[_], fun _ _ => False, rfl, hbe, fun _ _ h => h.elim, fun _ _ _ h => h.elim, resStr ?_⟩
      rw [repeatL_length, Nat.mul_comm]
      exact hb
  | [], h => exact h.elim
  | [_], h => exact h.2.elim
  | _ :: _ :: _ :: _, h => exact h.2.2.elim
end
end Go.Av
namespace Go.Av
open Go.RowKit (Below)
theorem tabP_of {P : Program} {W : World} {nm : String} {k : IntKind} {zs : List Int} {g : Nat} (hg : P.globalNamed nm = some g) (h : Lib.TabIs P W nm k zs) : tabP k zs W.heap[g]? ∧ Zall W g ∧ g < W.heap.size := by
  simp only [Lib.TabIs, World.var?, hg, Option.bind_some] at h
  cases ho : W.heap[g]? with
  | none => rw [ho] at h; simp at h
  | some o =>
    rw [ho] at h
    have hlt : g < W.heap.size := by
      rcases Nat.lt_or_ge g W.heap.size with h' | h'
      · exact h'
      · rw [Array.getElem?_eq_none h'] at ho; simp at ho
    cases o with
    | cells cs e fr => simp only [Option.some.injEq] at h; subst h; exact ⟨⟨e, fr, rfl⟩, hlt, hlt⟩
    | _ => simp at h
theorem i64P_of {P : Program} {w : World} {g : Nat} {t : TypeId} {zero : Array Value} (h : w.ShapedOpen P) (hg : g < P.globals.size)
    (h0 : ((begin P (fun _ _ => 0) default).world.heap[g]?).bind Obj.row? = some (zero, t)) (hz : zero.size = 1)
    (hb : P.buildable t = true) (hc : P.cellTypes P.depth t = some [t]) (hu : P.underlying t = some (.int .i64)) : i64P w.heap[g]? ∧ Zall w g ∧ g < w.heap.size := by
  obtain ⟨m, hm⟩ := Go.Proofs.cell_of_shapedOpen_int h hg h0 hz hb hc hu
  have hlt := cell?_lt hm
  refine ⟨?_, hlt, hlt⟩
  simp only [World.cell?, Option.isSome_none, Bool.false_eq_true, if_false] at hm
  cases ho : w.heap[g]? with
  | none => rw [ho] at hm; simp at hm
  | some o =>
    rw [ho] at hm
    cases o with
    | cells cs e fr => exact ⟨m, cs, e, fr, rfl, hm⟩
    | _ => simp at hm
def glAll (P : Program) (W : World) : List (String × (Option Obj → Prop)) → Prop
  | [] => True
  | (nm, p) :: r => (P.globalNamed nm = none ∨ ∃ g, P.globalNamed nm = some g ∧ p W.heap[g]? ∧ Zall W g ∧ g < W.heap.size) ∧ glAll P W r
theorem gl_of {P : Program} {W : World} : ∀ (l : List (String × (Option Obj → Prop))), glAll P W l → ∀ t ∈ l, ∀ g, P.globalNamed t.1 = some g → t.2 W.heap[g]? ∧ Zall W g ∧ g < W.heap.size
  | [], _, t, h, _, _ => by simp at h
  | (nm, p) :: r, ⟨h1, h2⟩, t, h, g, hg => by
    rcases List.mem_cons.1 h with e | h
    · subst e
      rcases h1 with h1 | ⟨g', h3, h4⟩
      · rw [h1] at hg; simp at hg
      · obtain rfl := Option.some.inj (h3.symm.trans hg); exact h4
    · exact gl_of r h2 t h g hg
theorem handed_laid {H : Type} {enc : TypeId × Value → H} {a : Assume} {C : Checked} {os : Os} {f : FuncId} {fn : Func} {s : ChangeSpec} {conds : List PathCond} {apart fresh handsOn again : Bool} {X : World → Array Value → Prop}
    (hX : ∀ (w w' : World) (args : Array Value), w.heap = w'.heap → X w args → X w' args)
    (own : ownKnob C.prog.godebug = none) (started : os.Started) (noInit : C.prog.inits.idxOf? f = none) (hfn : C.prog.funcs[f]? = some fn)
    (witness : ∃ (w : World) (tape : Tape) (i : Input), w.os = os ∧ (w.forCall tape i).Shaped C.prog ∧ i.vars = [] ∧ Input.okWide C.prog (w.forCall tape i) .any w.heap.size f i ∧
      ((s.pre enc C.prog fn conds apart (w.forCall tape i).memory i.args ∧ X (w.forCall tape i).memory i.args) ∧ sizedMet enc C.prog fn (OpenSpec.ofChange s) apart (w.forCall tape i).memory i.args) ∧ a.holds C.prog (lone (Frame.enter C.prog f i.args .normal) [] (w.forCall tape i)))
    (contract : ∀ (W : World) (base : Nat) (args : Array Value) (ds gs : List (DataW H)) (before : List MemPlace),
      (∀ (j : Nat) t v, fn.params[j]? = some t → args[j]? = some v → Value.okWide C.prog W .any base t v) →
      DataW.Whole enc C.prog fn.params.toList s.vars apart W args.toList ds gs before →
      (DataW.weightsEach C.prog (fn.params.toList ++ s.plain.varTypes C.prog) (ds ++ gs)).all (· ≤ reachBytes) = true → X W args →
      W.ShapedOpen C.prog →
      Calls C.prog f args W fun e W' => ∃ v, e = .returned v ∧ s.post enc C.prog fn apart fresh handsOn again W args v W') :
    ReturnsInHanded a C os f .any (fun w args => (s.pre enc C.prog fn conds apart w args ∧ X w args) ∧ sizedMet enc C.prog fn (OpenSpec.ofChange s) apart w args) (s.post enc C.prog fn apart fresh handsOn again) := by
  refine returnsInHanded_of_calls own started noInit witness ?_
  intro w tape i _ hsh _ hok hpre _
  obtain ⟨_, _, _, fn', hfn', _, _, _, _, hval⟩ := hok
  obtain rfl : fn' = fn := Option.some.inj (hfn'.symm.trans hfn)
  obtain ⟨⟨⟨ds, gs, before, hw, _⟩, hx⟩, hz⟩ := hpre
  refine (contract (w.forCall tape i) w.heap.size i.args ds gs before hval (DataW.Whole.of_heap (w' := w.forCall tape i) (by rfl) hw) (hz.weights hw) (hX _ _ _ (by rfl) hx) hsh).mono fun e W' ⟨v, he, hp⟩ => ?_
  subst he
  exact ChangeSpec.post_blind hp
end Go.Av

