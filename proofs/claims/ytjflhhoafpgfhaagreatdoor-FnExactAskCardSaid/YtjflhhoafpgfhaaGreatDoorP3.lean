/- Part of a proof that the law FnExactAsk answers true for every input: the printed functions of this program and their plain laws. No conditions beyond the statement. -/
import Derived.Test.YtjflhhoafpgfhaaGreatDoorP1
import Derived.Test.YtjflhhoafpgfhaaGreatDoorFw3
set_option maxRecDepth 100000
set_option maxHeartbeats 4000000
namespace Go.Av
abbrev HoldT := List UInt8 × Int × Int × Unit
abbrev SlotT := List UInt8 × List UInt8 × List (Int × Unit) × Unit
abbrev RingT := Int × Int × List (Int × Unit) × List (Int × Unit) × Unit
def inM (a lo hi : Int) : Bool := cond (leI lo a) (leI a hi) false
theorem inM_iff {a lo hi : Int} : inM a lo hi = true ↔ lo ≤ a ∧ a ≤ hi := by
  unfold inM leI
  by_cases h : lo ≤ a <;> simp [h]
theorem in_s (a lo hi : Int) : g61 a lo hi = some ((), ((inM a lo hi, ()), ())) := rfl
theorem in_i (a lo hi : Int) : g76 a lo hi = some ((), ((inM a lo hi, ()), ())) := rfl
def moneyM (a : Int) : Bool := inM a 0 4611686018427387904
theorem money_s (a : Int) : g62 a = some ((), ((moneyM a, ()), ())) := rfl
theorem money_i (a : Int) : g126 a = some ((), ((moneyM a, ()), ())) := rfl
def timeM (a : Int) : Bool := inM a 0 1000000000
theorem time_s (a : Int) : g23 a = some ((), ((timeM a, ()), ())) := rfl
theorem time_i (a : Int) : g45 a = some ((), ((timeM a, ()), ())) := rfl
def digM (x : UInt8) : Bool := cond (ltI (x.toNat : Int) 48) false (!(ltI 57 (x.toNat : Int)))
theorem digM_iff {x : UInt8} : digM x = true ↔ 48 ≤ x.toNat ∧ x.toNat ≤ 57 := by
  unfold digM ltI
  by_cases h : (x.toNat : Int) < 48
  · simp [h]; omega
  · by_cases h2 : (57 : Int) < x.toNat
    · simp [h, h2]; omega
    · simp [h, h2]; omega
def digitsM (s : List UInt8) : Bool := cond (s.all digM) (ltI 0 (lenI s)) false
theorem digits_s (s : List UInt8) (hs : s.length ≤ big) : g84 s = some ((), ((digitsM s, ()), ())) := by
  unfold g84
  have h := loop_list (step := fun (x : (List UInt8) × Int × Unit) => r84_0 x.1 x.2.1) s (fun i (_ : Unit) => (s, ((i : Nat) : Int), ())) (fun _ x _ => bif digM x then Sum.inl () else .inr (.inr (false, ()))) (fun _ => .inl (s, (s.length : Int), ())) (a0 := ()) (fun i x a hx => by
      have hlt := lt_of_get hx
      show r84_0 s (i : Int) = _
      unfold r84_0 digM
      rw [ltI_in hx, inB_in hx, bytI_in hx, addW1 (by omega)]
      dsimp only [cond_true]
      cases ltI (x.toNat : Int) 48 <;> cases ltI 57 (x.toNat : Int) <;> rfl) (fun a => by
      show r84_0 s (s.length : Int) = _
      unfold r84_0
      rw [ltI_out rfl]; rfl)
  rw [goL_all] at h
  have h' : l84_0 s 0 = _ := h
  rw [h']
  unfold digitsM
  cases s.all digM <;> rfl
theorem digits_i (s : List UInt8) (hs : s.length ≤ big) : g151 s = some ((), ((digitsM s, ()), ())) := by
  unfold g151
  have h := loop_list (step := fun (x : (List UInt8) × Int × Int × Unit) => r151_0 x.1 x.2.1 x.2.2.1) s (fun i (_ : Unit) => (s, lenI s, ((i : Nat) : Int), ())) (fun _ x _ => bif digM x then Sum.inl () else .inr (.inr (false, ()))) (fun _ => .inl (s, lenI s, (s.length : Int), ())) (a0 := ()) (fun i x a hx => by
      have hlt := lt_of_get hx
      show r151_0 s (lenI s) (i : Int) = _
      unfold r151_0 digM
      rw [ltI_in hx, inB_in hx, bytI_in hx, addW1 (by omega)]
      dsimp only [cond_true]
      cases ltI (x.toNat : Int) 48 <;> cases ltI 57 (x.toNat : Int) <;> rfl) (fun a => by
      show r151_0 s (lenI s) (s.length : Int) = _
      unfold r151_0
      rw [ltI_out rfl]; rfl)
  rw [goL_all] at h
  have h' : l151_0 s (lenI s) 0 = _ := h
  rw [h']
  unfold digitsM
  cases s with
  | nil => rfl
  | cons x r =>
    have e1 : ltI 0 (lenI (x :: r)) = true := ltI_yes (by unfold lenI; simp only [List.length_cons]; omega)
    have e2 : eqS (x :: r) [] = false := rfl
    cases (x :: r).all digM
    · rfl
    · dsimp only [cond_true, cond_false, Option.bind_some, Sum.elim_inl]
      rw [e1, e2]; rfl
def holdChM (x : UInt8) : Bool := cond (ltI (x.toNat : Int) 48) (cond (ltI (x.toNat : Int) 97) false (!(ltI 122 (x.toNat : Int)))) (cond (ltI 57 (x.toNat : Int)) (cond (ltI (x.toNat : Int) 97) false (!(ltI 122 (x.toNat : Int)))) true)
def holdIdM (s : List UInt8) : Bool := cond (s.all holdChM) (inM (lenI s) 1 6) false
theorem holdId_s (s : List UInt8) (hs : s.length ≤ big) : g86 s = some ((), ((holdIdM s, ()), ())) := by
  unfold g86
  have h := loop_list (step := fun (x : (List UInt8) × Int × Unit) => r86_0 x.1 x.2.1) s (fun i (_ : Unit) => (s, ((i : Nat) : Int), ())) (fun _ x _ => bif holdChM x then Sum.inl () else .inr (.inr (false, ()))) (fun _ => .inl (s, (s.length : Int), ())) (a0 := ()) (fun i x a hx => by
      have hlt := lt_of_get hx
      show r86_0 s (i : Int) = _
      unfold r86_0 holdChM
      rw [ltI_in hx, inB_in hx, bytI_in hx, addW1 (by omega)]
      dsimp only [cond_true]
      cases ltI (x.toNat : Int) 48 <;> cases ltI 57 (x.toNat : Int) <;> cases ltI (x.toNat : Int) 97 <;> cases ltI 122 (x.toNat : Int) <;> rfl) (fun a => by
      show r86_0 s (s.length : Int) = _
      unfold r86_0
      rw [ltI_out rfl]; rfl)
  rw [goL_all] at h
  have h' : l86_0 s 0 = _ := h
  rw [h']
  unfold holdIdM
  cases s.all holdChM <;> rfl
theorem holdId_i (s : List UInt8) (hs : s.length ≤ big) : g100 s = some ((), ((holdIdM s, ()), ())) := by
  unfold g100
  have h := loop_list (step := fun (x : (List UInt8) × Int × Int × Unit) => r100_0 x.1 x.2.1 x.2.2.1) s (fun i (_ : Unit) => (s, lenI s, ((i : Nat) : Int), ())) (fun _ x _ => bif holdChM x then Sum.inl () else .inr (.inr (false, ()))) (fun _ => .inl (s, lenI s, (s.length : Int), ())) (a0 := ()) (fun i x a hx => by
      have hlt := lt_of_get hx
      show r100_0 s (lenI s) (i : Int) = _
      unfold r100_0 holdChM
      rw [ltI_in hx, inB_in hx, bytI_in hx, addW1 (by omega)]
      dsimp only [cond_true]
      cases ltI (x.toNat : Int) 48 <;> cases ltI 57 (x.toNat : Int) <;> cases ltI (x.toNat : Int) 97 <;> cases ltI 122 (x.toNat : Int) <;> rfl) (fun a => by
      show r100_0 s (lenI s) (s.length : Int) = _
      unfold r100_0
      rw [ltI_out rfl]; rfl)
  rw [goL_all] at h
  have h' : l100_0 s (lenI s) 0 = _ := h
  rw [h']
  unfold holdIdM
  cases s.all holdChM <;> rfl
def holdM (h : HoldT) : Bool := cond (holdIdM h.1) (cond (inM h.2.1 1 9007199254740992) (timeM h.2.2.1) false) false
theorem hold_s (h : HoldT) (hs : h.1.length ≤ big) : g120 h = some ((), ((holdM h, ()), ())) := by
  unfold g120 holdM
  simp only [holdId_s _ hs, in_s, time_s, Option.bind_some]
  cases holdIdM h.1 <;> cases inM h.2.1 1 9007199254740992 <;> rfl
theorem hold_i (h : HoldT) (hs : h.1.length ≤ big) : g168 h = some ((), ((holdM h, ()), ())) := by
  unfold g168 holdM
  simp only [holdId_i _ hs, in_i, time_i, Option.bind_some]
  cases holdIdM h.1 <;> cases inM h.2.1 1 9007199254740992 <;> rfl
def holdStep (xs : List HoldT) (i : Nat) (x : HoldT) : Bool := cond (holdM x) (cond (ltI 0 (i : Int)) (ltS (gt ([], 0, 0, ()) xs ((i : Int) - 1)).1 x.1) true) false
def holdsM (xs : List HoldT) : Bool := cond (allI (holdStep xs) 0 xs) (leI (lenI xs) 4) false
theorem bytesLess_tri : ∀ (s t : List UInt8), (Op.bytesLess s t || eqS s t) = !(Op.bytesLess t s)
  | [], [] => rfl
  | [], _ :: _ => rfl
  | _ :: _, [] => rfl
  | a :: s, b :: t => by
    have ih := bytesLess_tri s t
    have e : eqS (a :: s) (b :: t) = (a == b && eqS s t) := rfl
    show ((decide (a < b) || (a == b && Op.bytesLess s t)) || eqS (a :: s) (b :: t)) = !(decide (b < a) || (b == a && Op.bytesLess t s))
    rw [e]
    rcases Nat.lt_trichotomy a.toNat b.toNat with h | h | h
    · have h1 : a < b := UInt8.lt_iff_toNat_lt.2 h
      have h2 : ¬ b < a := fun hh => by have := UInt8.lt_iff_toNat_lt.1 hh; omega
      have h3 : (b == a) = false := by rw [beq_eq_false_iff_ne]; intro hh; subst hh; omega
      simp [h1, h2, h3]
    · have h1 : a = b := UInt8.toNat_inj.1 h
      subst h1
      have h2 : ¬ a < a := fun hh => by have := UInt8.lt_iff_toNat_lt.1 hh; omega
      simpa [h2] using ih
    · have h1 : ¬ a < b := fun hh => by have := UInt8.lt_iff_toNat_lt.1 hh; omega
      have h2 : b < a := UInt8.lt_iff_toNat_lt.2 h
      have h3 : (a == b) = false := by rw [beq_eq_false_iff_ne]; intro hh; subst hh; omega
      simp [h1, h2, h3]
theorem leS_not (s t : List UInt8) : leS s t = !(ltS t s) := bytesLess_tri s t
def HoldsB (xs : List HoldT) : Prop := xs.length ≤ big ∧ ∀ y ∈ xs, y.1.length ≤ big
theorem prev_get {α : Type} {xs : List α} {i : Nat} {x : α} (hx : xs[i]? = some x) (h : 0 < i) : inB ((i : Int) - 1) xs = true := by
  have := lt_of_get hx
  have e : (i : Int) - 1 = ((i - 1 : Nat) : Int) := by omega
  rw [e]; exact inB_lt (by omega)
theorem holds_s (xs : List HoldT) (hb : HoldsB xs) : g63 xs = some ((), ((holdsM xs, ()), ())) := by
  have hbig : big = 140737488355328 := rfl
  unfold g63
  have h := loop_list (step := fun (x : (List HoldT) × (List HoldT) × Int × Int × Unit) => r63_0 x.1 x.2.1 x.2.2.1 x.2.2.2.1) xs (fun i (_ : Unit) => (xs, xs, lenI xs, ((i : Nat) : Int), ())) (fun i x _ => bif holdStep xs i x then Sum.inl () else .inr (.inr (false, ()))) (fun _ => .inl (xs, xs, lenI xs, (xs.length : Int), ())) (a0 := ()) (fun i x a hx => by
      have hlt := lt_of_get hx
      have hl := hb.1
      show r63_0 xs xs (lenI xs) (i : Int) = _
      unfold r63_0 holdStep
      rw [ltI_in hx, inB_in hx, gt_in _ hx]
      dsimp only [cond_true]
      rw [hold_s x (hb.2 x (List.mem_of_getElem? hx)), addW1 (by omega)]
      dsimp only [Option.bind_some]
      cases holdM x with
      | false => rfl
      | true =>
        by_cases h0 : 0 < i
        · rw [ltI_yes (show (0 : Int) < i by omega), subW_in (by omega) (by omega), prev_get hx h0]
          dsimp only [cond_true, cond_false, Bool.not_true]
          have e : gt d108 xs ((i : Int) - 1) = gt ([], 0, 0, ()) xs ((i : Int) - 1) := rfl
          rw [e]
          cases ltS (gt ([], 0, 0, ()) xs ((i : Int) - 1)).1 x.1 <;> rfl
        · rw [ltI_no (show ¬ (0 : Int) < i by omega)]; rfl) (fun a => by
      show r63_0 xs xs (lenI xs) (xs.length : Int) = _
      unfold r63_0
      rw [ltI_out rfl]; rfl)
  rw [goL_allI] at h
  have h' : l63_0 xs xs (lenI xs) 0 = _ := h
  rw [h']
  unfold holdsM
  cases allI (holdStep xs) 0 xs <;> rfl
theorem holds_i (xs : List HoldT) (hb : HoldsB xs) : g127 xs = some ((), ((holdsM xs, ()), ())) := by
  have hbig : big = 140737488355328 := rfl
  unfold g127
  have h := loop_list (step := fun (x : (List HoldT) × (List HoldT) × Int × Int × Unit) => r127_0 x.1 x.2.1 x.2.2.1 x.2.2.2.1) xs (fun i (_ : Unit) => (xs, xs, lenI xs, ((i : Nat) : Int), ())) (fun i x _ => bif holdStep xs i x then Sum.inl () else .inr (.inr (false, ()))) (fun _ => .inl (xs, xs, lenI xs, (xs.length : Int), ())) (a0 := ()) (fun i x a hx => by
      have hlt := lt_of_get hx
      have hl := hb.1
      show r127_0 xs xs (lenI xs) (i : Int) = _
      unfold r127_0 holdStep
      rw [ltI_in hx, inB_in hx, gt_in _ hx]
      dsimp only [cond_true]
      rw [hold_i x (hb.2 x (List.mem_of_getElem? hx)), addW1 (by omega)]
      dsimp only [Option.bind_some]
      cases holdM x with
      | false => rfl
      | true =>
        by_cases h0 : 0 < i
        · rw [ltI_yes (show (0 : Int) < i by omega), subW_in (by omega) (by omega), prev_get hx h0]
          dsimp only [cond_true, cond_false, Bool.not_true]
          rw [leS_not]
          have e : gt d108 xs ((i : Int) - 1) = gt ([], 0, 0, ()) xs ((i : Int) - 1) := rfl
          rw [e]
          cases ltS (gt ([], 0, 0, ()) xs ((i : Int) - 1)).1 x.1 <;> rfl
        · rw [ltI_no (show ¬ (0 : Int) < i by omega)]; rfl) (fun a => by
      show r127_0 xs xs (lenI xs) (xs.length : Int) = _
      unfold r127_0
      rw [ltI_out rfl]; rfl)
  rw [goL_allI] at h
  have h' : l127_0 xs xs (lenI xs) 0 = _ := h
  rw [h']
  unfold holdsM
  cases allI (holdStep xs) 0 xs <;> rfl
def lunE (dbl : Bool) (x : UInt8) : Int := cond dbl (cond (ltI 9 (2 * ((x.toNat : Int) - 48))) (2 * ((x.toNat : Int) - 48) - 9) (2 * ((x.toNat : Int) - 48))) ((x.toNat : Int) - 48)
theorem lunE_bd (b : Bool) {x : UInt8} (h : digM x = true) : 0 ≤ lunE b x ∧ lunE b x ≤ 9 := by
  obtain ⟨h1, h2⟩ := digM_iff.1 h
  unfold lunE ltI
  cases b
  · dsimp only [cond_false]; omega
  · dsimp only [cond_true]
    by_cases h9 : 9 < 2 * ((x.toNat : Int) - 48)
    · rw [decide_eq_true h9]; dsimp only [cond_true]; omega
    · rw [decide_eq_false h9]; dsimp only [cond_false]; omega
def lunS (xs : List UInt8) (a : Int × Bool) : Int × Bool := xs.foldl (fun a x => (a.1 + lunE a.2 x, !a.2)) a
def lunT (xs : List UInt8) (a : Int × Bool) : Int × Bool := xs.foldl (fun a x => ((a.1 + lunE a.2 x) % 10, !a.2)) a
theorem lunT_eq : ∀ (xs : List UInt8) (a : Int) (b : Bool), lunT xs (a % 10, b) = ((lunS xs (a, b)).1 % 10, (lunS xs (a, b)).2)
  | [], a, b => rfl
  | x :: r, a, b => by
    have e : (a % 10 + lunE b x) % 10 = (a + lunE b x) % 10 := by omega
    show lunT r ((a % 10 + lunE b x) % 10, !b) = ((lunS r (a + lunE b x, !b)).1 % 10, (lunS r (a + lunE b x, !b)).2)
    rw [e]
    exact lunT_eq r _ _
def luhnM (s : List UInt8) : Int := cond (digitsM s) ((10 - (lunS s.reverse (0, true)).1 % 10) % 10) (-1)
theorem digitsM_all {s : List UInt8} (h : digitsM s = true) : ∀ x ∈ s, digM x = true := by
  unfold digitsM at h
  cases hs : s.all digM with
  | true => exact fun x hx => List.all_eq_true.1 hs x hx
  | false => rw [hs] at h; simp at h
theorem rev_get {s : List UInt8} {i : Nat} {x : UInt8} (h : s.reverse[i]? = some x) : i < s.length ∧ s[s.length - 1 - i]? = some x := by
  have hl : i < s.length := by simpa using lt_of_get h
  refine ⟨hl, ?_⟩
  rwa [List.getElem?_reverse hl] at h
theorem dig_s {x : UInt8} (h : digM x = true) : subW .i64 (cvtW .i64 (x.toNat : Int)) 48 = (x.toNat : Int) - 48 := by
  obtain ⟨h1, h2⟩ := digM_iff.1 h
  have e : cvtW .i64 (x.toNat : Int) = (x.toNat : Int) := IntWalk.i64_in _ (by omega)
  rw [e]; exact subW_in (by omega) (by omega)
theorem dig_i {x : UInt8} (h : digM x = true) : cvtW .i64 (subW .u8 (x.toNat : Int) 48) = (x.toNat : Int) - 48 := by
  obtain ⟨h1, h2⟩ := digM_iff.1 h
  have e : subW .u8 (x.toNat : Int) 48 = (x.toNat : Int) - 48 := IntWalk.u8_in _ (by omega)
  rw [e]; exact IntWalk.i64_in _ (by omega)
theorem mulW_in {a b : Int} (h1 : -4611686018427387904 ≤ a * b) (h2 : a * b ≤ 4611686018427387904) : mulW .i64 a b = a * b := by
  unfold mulW; rw [IntWalk.i64_in _ (by omega)]
theorem remI_10 {a : Int} (h : 0 ≤ a) : remI a 10 = a % 10 := by unfold remI; exact Int.tmod_eq_emod_of_nonneg h
theorem luhn_s (s : List UInt8) (hs : s.length ≤ big) : g166 s = some ((), ((luhnM s, ()), ())) := by
  have hbig : big = 140737488355328 := rfl
  unfold g166 luhnM
  rw [digits_s s hs]
  dsimp only [Option.bind_some]
  cases hd : digitsM s with
  | false => rfl
  | true =>
  have hall := digitsM_all hd
  have h := loop_inv (step := fun (x : (List UInt8) × Int × Bool × Int × Unit) => r166_0 x.1 x.2.1 x.2.2.1 x.2.2.2.1) s.reverse (fun i (a : Int × Bool) => (s, a.1, a.2, (s.length : Int) - 1 - ((i : Nat) : Int), ())) (fun _ x a => Sum.inl ((a.1 + lunE a.2 x) % 10, !a.2)) (fun a => .inl (s, a.1, a.2, (-1 : Int), ()))
    (fun _ a => 0 ≤ a.1 ∧ a.1 < 10) (a0 := (0, true)) ⟨by decide, by decide⟩ (fun i x a hx ha => by
      obtain ⟨hlt, hx'⟩ := rev_get hx
      have hdx := hall x (List.mem_of_getElem? hx')
      have hbd := lunE_bd a.2 hdx
      have hdd := digM_iff.1 hdx
      have e : (s.length : Int) - 1 - (i : Int) = ((s.length - 1 - i : Nat) : Int) := by omega
      have e' : (s.length : Int) - 1 - ((i + 1 : Nat) : Int) = ((s.length - 1 - i : Nat) : Int) - 1 := by omega
      obtain ⟨a1, a2⟩ := a
      show r166_0 s a1 a2 ((s.length : Int) - 1 - (i : Int)) = some (.inl (s, (a1 + lunE a2 x) % 10, !a2, (s.length : Int) - 1 - ((i + 1 : Nat) : Int), ()))
      rw [e, e']
      have hle : leI 0 ((s.length - 1 - i : Nat) : Int) = true := decide_eq_true (by omega)
      have ha : 0 ≤ a1 ∧ a1 < 10 := ha
      unfold r166_0
      rw [hle, inB_in hx', bytI_in hx', dig_s hdx, subW_in (a := ((s.length - 1 - i : Nat) : Int)) (b := 1) (by omega) (by omega)]
      have hb : (0 ≤ lunE a2 x ∧ lunE a2 x ≤ 9) := hbd
      cases a2 with
      | false =>
        have hv : lunE false x = (x.toNat : Int) - 48 := rfl
        dsimp only [cond_true, cond_false, Bool.not_false]
        rw [addW_in (by omega) (by omega), remI_10 (by omega), hv]
      | true =>
        dsimp only [cond_true, cond_false, Bool.not_false, Bool.not_true]
        rw [mulW_in (by omega) (by omega)]
        by_cases h9 : 9 < 2 * ((x.toNat : Int) - 48)
        · have hv : lunE true x = 2 * ((x.toNat : Int) - 48) - 9 := by unfold lunE; rw [ltI_yes h9]; rfl
          rw [ltI_yes h9]; dsimp only [cond_true, cond_false, Bool.not_false]; rw [subW_in (by omega) (by omega), addW_in (by omega) (by omega), remI_10 (by omega), hv]
        · have hv : lunE true x = 2 * ((x.toNat : Int) - 48) := by unfold lunE; rw [ltI_no h9]; rfl
          rw [ltI_no h9]; dsimp only [cond_true, cond_false, Bool.not_false]; rw [addW_in (by omega) (by omega), remI_10 (by omega), hv]) (fun i x a a' hx ha hf => by
      simp only [Sum.inl.injEq] at hf
      subst hf
      show 0 ≤ (a.1 + lunE a.2 x) % 10 ∧ (a.1 + lunE a.2 x) % 10 < 10
      omega) (fun a ha => by
      have e : (s.length : Int) - 1 - ((s.reverse.length : Nat) : Int) = -1 := by simp; omega
      show r166_0 s a.1 a.2 ((s.length : Int) - 1 - ((s.reverse.length : Nat) : Int)) = _
      rw [e]
      rfl)
  rw [goL_fold (fun x a => ((a.1 + lunE a.2 x) % 10, !a.2))] at h
  have h' : l166_0 s 0 true ((s.length : Int) - 1 - ((0 : Nat) : Int)) = some (.inl (s, (lunT s.reverse (0, true)).1, (lunT s.reverse (0, true)).2, (-1 : Int), ())) := h
  have e0 : (s.length : Int) - 1 - ((0 : Nat) : Int) = subW .i64 (lenI s) 1 := by rw [subW_in (by unfold lenI; omega) (by unfold lenI; omega)]; unfold lenI; omega
  have eT : (lunT s.reverse (0, true)).1 = (lunS s.reverse (0, true)).1 % 10 := by
    have := lunT_eq s.reverse 0 true
    rw [show (0 : Int) % 10 = 0 from rfl] at this
    rw [this]
  rw [e0] at h'
  rw [h', eT]
  dsimp only [Option.bind_some, Sum.elim_inl, cond_true, cond_false, Bool.not_true]
  rw [subW_in (by omega) (by omega), remI_10 (by omega)]; rfl
theorem luhn_i (s : List UInt8) (hs : s.length ≤ big) : g183 s = some ((), ((luhnM s, ()), ())) := by
  have hbig : big = 140737488355328 := rfl
  unfold g183 luhnM
  rw [digits_i s hs]
  dsimp only [Option.bind_some]
  cases hd : digitsM s with
  | false => rfl
  | true =>
  have hall := digitsM_all hd
  have h := loop_inv (step := fun (x : (List UInt8) × Int × Bool × Int × Unit) => r183_0 x.1 x.2.1 x.2.2.1 x.2.2.2.1) s.reverse (fun i (a : Int × Bool) => (s, a.1, a.2, (s.length : Int) - 1 - ((i : Nat) : Int), ())) (fun _ x a => Sum.inl (a.1 + lunE a.2 x, !a.2)) (fun a => .inl (s, a.1, a.2, (-1 : Int), ()))
    (fun i a => 0 ≤ a.1 ∧ a.1 ≤ 9 * i) (a0 := (0, true)) ⟨by decide, by decide⟩ (fun i x a hx ha => by
      obtain ⟨hlt, hx'⟩ := rev_get hx
      have hdx := hall x (List.mem_of_getElem? hx')
      have hbd := lunE_bd a.2 hdx
      have hdd := digM_iff.1 hdx
      have e : (s.length : Int) - 1 - (i : Int) = ((s.length - 1 - i : Nat) : Int) := by omega
      have e' : (s.length : Int) - 1 - ((i + 1 : Nat) : Int) = ((s.length - 1 - i : Nat) : Int) - 1 := by omega
      obtain ⟨a1, a2⟩ := a
      show r183_0 s a1 a2 ((s.length : Int) - 1 - (i : Int)) = some (.inl (s, a1 + lunE a2 x, !a2, (s.length : Int) - 1 - ((i + 1 : Nat) : Int), ()))
      rw [e, e']
      have hle : leI 0 ((s.length - 1 - i : Nat) : Int) = true := decide_eq_true (by omega)
      have ha : 0 ≤ a1 ∧ a1 ≤ 9 * i := ha
      unfold r183_0
      rw [hle, inB_in hx', bytI_in hx', dig_i hdx, subW_in (a := ((s.length - 1 - i : Nat) : Int)) (b := 1) (by omega) (by omega)]
      have hb : (0 ≤ lunE a2 x ∧ lunE a2 x ≤ 9) := hbd
      cases a2 with
      | false =>
        have hv : lunE false x = (x.toNat : Int) - 48 := rfl
        dsimp only [cond_true, cond_false, Bool.not_false]
        rw [addW_in (by omega) (by omega), hv]
      | true =>
        dsimp only [cond_true, cond_false, Bool.not_false, Bool.not_true]
        have em : mulW .i64 ((x.toNat : Int) - 48) 2 = 2 * ((x.toNat : Int) - 48) := by rw [mulW_in (by omega) (by omega)]; omega
        rw [em]
        by_cases h9 : 9 < 2 * ((x.toNat : Int) - 48)
        · have hv : lunE true x = 2 * ((x.toNat : Int) - 48) - 9 := by unfold lunE; rw [ltI_yes h9]; rfl
          rw [ltI_yes h9]; dsimp only [cond_true, cond_false, Bool.not_false]; rw [subW_in (by omega) (by omega), addW_in (by omega) (by omega), hv]
        · have hv : lunE true x = 2 * ((x.toNat : Int) - 48) := by unfold lunE; rw [ltI_no h9]; rfl
          rw [ltI_no h9]; dsimp only [cond_true, cond_false, Bool.not_false]; rw [addW_in (by omega) (by omega), hv]) (fun i x a a' hx ha hf => by
      have hbd := lunE_bd a.2 (hall x (List.mem_of_getElem? (rev_get hx).2))
      simp only [Sum.inl.injEq] at hf
      subst hf
      show 0 ≤ a.1 + lunE a.2 x ∧ a.1 + lunE a.2 x ≤ 9 * ((i + 1 : Nat) : Int)
      omega) (fun a ha => by
      have e : (s.length : Int) - 1 - ((s.reverse.length : Nat) : Int) = -1 := by simp; omega
      show r183_0 s a.1 a.2 ((s.length : Int) - 1 - ((s.reverse.length : Nat) : Int)) = _
      rw [e]
      rfl)
  rw [goL_fold (fun x a => (a.1 + lunE a.2 x, !a.2))] at h
  have h' : l183_0 s 0 true ((s.length : Int) - 1 - ((0 : Nat) : Int)) = some (.inl (s, (lunS s.reverse (0, true)).1, (lunS s.reverse (0, true)).2, (-1 : Int), ())) := h
  have e0 : (s.length : Int) - 1 - ((0 : Nat) : Int) = subW .i64 (lenI s) 1 := by rw [subW_in (by unfold lenI; omega) (by unfold lenI; omega)]; unfold lenI; omega
  have hS : ∀ (xs : List UInt8) (a : Int × Bool), (∀ x ∈ xs, digM x = true) → 0 ≤ a.1 → 0 ≤ (lunS xs a).1 := by
    intro xs
    induction xs with
    | nil => intro a _ h; exact h
    | cons x r ih =>
      intro a hx h
      have := lunE_bd a.2 (hx x (List.mem_cons_self ..))
      exact ih (a.1 + lunE a.2 x, !a.2) (fun y hy => hx y (List.mem_cons_of_mem _ hy)) (by show 0 ≤ a.1 + lunE a.2 x; omega)
  have h0 := hS s.reverse (0, true) (fun x hx => hall x (List.mem_reverse.1 hx)) (by decide)
  rw [e0] at h'
  rw [h']
  dsimp only [Option.bind_some, Sum.elim_inl, cond_true, cond_false, Bool.not_true]
  rw [remI_10 h0, subW_in (by omega) (by omega), remI_10 (by omega)]; rfl
def luhnOkM (s : List UInt8) : Bool := cond (digitsM s) (cond (leI 2 (lenI s)) (eqI (luhnM (sub s 0 (lenI s - 1))) (bytI s (lenI s - 1) - 48)) false) false
theorem lastD {s : List UInt8} (hd : digitsM s = true) (h : 2 ≤ s.length) : ∃ x, digM x = true ∧ inB (lenI s - 1) s = true ∧ bytI s (lenI s - 1) = (x.toNat : Int) ∧ cutB 0 (lenI s - 1) s = true ∧ (sub s 0 (lenI s - 1)).length ≤ s.length := by
  have e : lenI s - 1 = ((s.length - 1 : Nat) : Int) := by unfold lenI; omega
  obtain ⟨x, hx⟩ : ∃ x, s[s.length - 1]? = some x := ⟨s[s.length - 1]'(by omega), by simp⟩
  refine ⟨x, digitsM_all hd x (List.mem_of_getElem? hx), ?_, ?_, ?_, ?_⟩
  · rw [e]; exact inB_in hx
  · rw [e]; exact bytI_in hx
  · rw [e]; unfold cutB cutOk leI
    rw [decide_eq_true (by decide), decide_eq_true (by omega), decide_eq_true (by omega)]; rfl
  · rw [e]; unfold sub; simp
theorem luhnOk_s (s : List UInt8) (hs : s.length ≤ big) : g119 s = some ((), ((luhnOkM s, ()), ())) := by
  have hbig : big = 140737488355328 := rfl
  unfold g119 luhnOkM
  rw [digits_s s hs]
  dsimp only [Option.bind_some]
  cases hd : digitsM s with
  | false => rfl
  | true =>
    by_cases h2 : 2 ≤ s.length
    · obtain ⟨x, h3, h4, h5, h6, h7⟩ := lastD hd h2
      have e1 : leI 2 (lenI s) = true := decide_eq_true (by unfold lenI; omega)
      have e2 : subW .i64 (lenI s) 1 = lenI s - 1 := subW_in (by unfold lenI; omega) (by unfold lenI; omega)
      rw [ltI_no (show ¬ lenI s < 2 by unfold lenI; omega), e1, e2]
      dsimp only [cond_true, cond_false, Bool.not_true]
      rw [h6, h4, luhn_s _ (Nat.le_trans h7 hs), h5, dig_s h3]; rfl
    · have e1 : leI 2 (lenI s) = false := decide_eq_false (by unfold lenI; omega)
      rw [ltI_yes (show lenI s < 2 by unfold lenI; omega), e1]; rfl
theorem luhnOk_i (s : List UInt8) (hs : s.length ≤ big) : g150 s = some ((), ((luhnOkM s, ()), ())) := by
  have hbig : big = 140737488355328 := rfl
  unfold g150 luhnOkM
  have e2 : subW .i64 (lenI s) 1 = lenI s - 1 := subW_in (by unfold lenI; omega) (by unfold lenI; omega)
  dsimp only
  rw [digits_i s hs, e2]
  dsimp only [Option.bind_some]
  by_cases h2 : 2 ≤ s.length
  · have e1 : leI 2 (lenI s) = true := decide_eq_true (by unfold lenI; omega)
    have e3 : leI 1 (lenI s - 1) = true := decide_eq_true (by unfold lenI; omega)
    rw [e1, e3]
    cases hd : digitsM s with
    | false => rfl
    | true =>
      obtain ⟨x, h3, h4, h5, h6, h7⟩ := lastD hd h2
      dsimp only [cond_true, cond_false, Bool.not_true]
      rw [h6, h4, luhn_i _ (Nat.le_trans h7 hs), h5, dig_i h3]; rfl
  · have e1 : leI 2 (lenI s) = false := decide_eq_false (by unfold lenI; omega)
    have e3 : leI 1 (lenI s - 1) = false := decide_eq_false (by unfold lenI; omega)
    rw [e1, e3]
    cases digitsM s <;> rfl
def acctIdM (s : List UInt8) : Bool := cond (leI (lenI s) 19) (luhnOkM s) false
theorem acctId_s (s : List UInt8) (hs : s.length ≤ big) : g60 s = some ((), ((acctIdM s, ()), ())) := by
  unfold g60 acctIdM
  rw [luhnOk_s s hs]
  cases leI (lenI s) 19 <;> rfl
theorem acctId_i (s : List UInt8) (hs : s.length ≤ big) : g97 s = some ((), ((acctIdM s, ()), ())) := by
  unfold g97 acctIdM
  rw [luhnOk_i s hs]
  cases leI (lenI s) 19 <;> rfl
def clampM (a : Int) : Int := if a < 0 then 0 else if 4611686018427387904 < a then 4611686018427387904 else a
theorem clampM_bd (a : Int) : 0 ≤ clampM a ∧ clampM a ≤ 4611686018427387904 := by
  unfold clampM
  split
  · omega
  · split <;> omega
def satM (a b : Int) : Int := if 4611686018427387904 - clampM b < clampM a then 4611686018427387904 else clampM a + clampM b
theorem satM_bd (a b : Int) : 0 ≤ satM a b ∧ satM a b ≤ 4611686018427387904 := by
  have := clampM_bd a; have := clampM_bd b
  unfold satM; split <;> omega
theorem clamp_s (a : Int) : g123 a 0 4611686018427387904 = some ((), ((clampM a, ()), ())) := by
  unfold g123 clampM
  by_cases h : a < 0
  · rw [ltI_yes h, if_pos h]; rfl
  · by_cases h2 : 4611686018427387904 < a
    · rw [ltI_no h, if_neg h, ltI_yes h2, if_pos h2]; rfl
    · rw [ltI_no h, if_neg h, ltI_no h2, if_neg h2]; rfl
theorem moneyM_yes {a : Int} (h : 0 ≤ a ∧ a ≤ 4611686018427387904) : moneyM a = true := inM_iff.2 h
theorem sat_s (a b : Int) : g66 a b = some ((), ((satM a b, ()), ())) := by
  unfold g66 g122 satM
  have h1 := clampM_bd a
  have h2 := clampM_bd b
  rw [clamp_s, clamp_s]
  dsimp only [Option.bind_some]
  rw [money_s, money_s, moneyM_yes h1, moneyM_yes h2, subW_in (by omega) (by omega)]
  dsimp only [Option.bind_some, Bool.not_true, cond_false]
  by_cases h : 4611686018427387904 - clampM b < clampM a
  · rw [ltI_yes h, if_pos h]; rfl
  · rw [ltI_no h, if_neg h, addW_in (by omega) (by omega)]; rfl
theorem sat_i (a b : Int) : g130 a b = some ((), ((satM a b, ()), ())) := by
  have e : ∀ x : Int, mxI 0 (mnI x 4611686018427387904) = clampM x := fun x => by
    unfold mxI mnI clampM
    split <;> split <;> (try split) <;> omega
  have h1 := clampM_bd a
  have h2 := clampM_bd b
  unfold g130 satM
  dsimp only
  rw [e, e, subW_in (by omega) (by omega)]
  by_cases h : 4611686018427387904 - clampM b < clampM a
  · rw [ltI_yes h, if_pos h]; rfl
  · rw [ltI_no h, if_neg h, addW_in (by omega) (by omega)]; rfl
def storedM (xs : List HoldT) : Int := xs.foldl (fun a h => satM a h.2.1) 0
theorem stored_s (xs : List HoldT) (hs : xs.length ≤ big) : g67 xs = some ((), ((storedM xs, ()), ())) := by
  unfold g67
  have h := loop_list (step := fun (x : Int × (List HoldT) × Int × Int × Unit) => r67_0 x.1 x.2.1 x.2.2.1 x.2.2.2.1) xs (fun i (a : Int) => (a, xs, lenI xs, ((i : Nat) : Int), ())) (fun _ x a => Sum.inl (satM a x.2.1)) (fun a => .inl (a, xs, lenI xs, (xs.length : Int), ())) (a0 := 0) (fun i x a hx => by
      have hlt := lt_of_get hx
      show r67_0 a xs (lenI xs) (i : Int) = _
      unfold r67_0
      rw [ltI_in hx, inB_in hx, gt_in _ hx, addW1 (by omega), sat_s]; rfl) (fun a => by
      show r67_0 a xs (lenI xs) (xs.length : Int) = _
      unfold r67_0
      rw [ltI_out rfl]; rfl)
  rw [goL_fold (fun (x : HoldT) a => satM a x.2.1)] at h
  have h' : l67_0 0 xs (lenI xs) 0 = _ := h
  rw [h']; rfl
theorem stored_i (xs : List HoldT) (hs : xs.length ≤ big) : g131 xs = some ((), ((storedM xs, ()), ())) := by
  unfold g131
  have h := loop_list (step := fun (x : Int × (List HoldT) × Int × Int × Unit) => r131_0 x.1 x.2.1 x.2.2.1 x.2.2.2.1) xs (fun i (a : Int) => (a, xs, lenI xs, ((i : Nat) : Int), ())) (fun _ x a => Sum.inl (satM a x.2.1)) (fun a => .inl (a, xs, lenI xs, (xs.length : Int), ())) (a0 := 0) (fun i x a hx => by
      have hlt := lt_of_get hx
      show r131_0 a xs (lenI xs) (i : Int) = _
      unfold r131_0
      rw [ltI_in hx, inB_in hx, gt_in _ hx, addW1 (by omega), sat_i]; rfl) (fun a => by
      show r131_0 a xs (lenI xs) (xs.length : Int) = _
      unfold r131_0
      rw [ltI_out rfl]; rfl)
  rw [goL_fold (fun (x : HoldT) a => satM a x.2.1)] at h
  have h' : l131_0 0 xs (lenI xs) 0 = _ := h
  rw [h']; rfl
def ringM (r : RingT) : Bool := cond (inM r.1 1 1000) (cond (inM (lenI r.2.2.1) 1 8) (cond (eqI (lenI r.2.2.2.1) (lenI r.2.2.1)) (cond (timeM r.2.1) (r.2.2.1.all (fun x => moneyM x.1) && r.2.2.2.1.all (fun x => moneyM x.1)) false) false) false) false
def RingB (r : RingT) : Prop := r.2.2.1.length ≤ 1048576 ∧ r.2.2.2.1.length ≤ 1048576
theorem eqI_iff {a b : Int} : eqI a b = true ↔ a = b := by simp [eqI]
theorem ring_s (r : RingT) (hb : RingB r) : g64 r = some ((), ((ringM r, ()), ())) := by
  have hbig : big = 140737488355328 := rfl
  obtain ⟨hb1, hb2⟩ := hb
  unfold g64 ringM
  dsimp only
  rw [in_s, in_s, time_s]
  dsimp only [Option.bind_some]
  cases inM r.1 1 1000 with
  | false => rfl
  | true =>
  cases inM (lenI r.2.2.1) 1 8 with
  | false => rfl
  | true =>
  cases he : eqI (lenI r.2.2.2.1) (lenI r.2.2.1) with
  | false => rfl
  | true =>
  cases timeM r.2.1 with
  | false => rfl
  | true =>
  have hlen : r.2.2.2.1.length = r.2.2.1.length := by
    have := eqI_iff.1 he
    unfold lenI at this; omega
  dsimp only [cond_true, cond_false, Bool.not_true]
  have h := loop_list (step := fun (x : Int × Int × RingT × Unit) => r64_0 x.1 x.2.1 x.2.2.1) (r.2.2.1.zip r.2.2.2.1) (fun i (_ : Unit) => (lenI r.2.2.1, ((i : Nat) : Int), r, ())) (fun _ x _ => bif moneyM x.1.1 && moneyM x.2.1 then Sum.inl () else .inr (.inr (false, ()))) (fun _ => .inl (lenI r.2.2.1, (r.2.2.1.length : Int), r, ())) (a0 := ()) (fun i x a hx => by
      have hx' := List.getElem?_zip_eq_some.1 hx
      have hlt := lt_of_get hx'.1
      show r64_0 (lenI r.2.2.1) (i : Int) r = _
      unfold r64_0
      rw [ltI_in hx'.1, inB_in hx'.1, inB_in hx'.2, gt_in _ hx'.1, gt_in _ hx'.2, money_s, money_s, addW1 (by omega)]
      dsimp only [cond_true, Option.bind_some]
      cases moneyM x.1.1 <;> cases moneyM x.2.1 <;> rfl) (fun a => by
      have e : (r.2.2.1.zip r.2.2.2.1).length = r.2.2.1.length := by rw [List.length_zip, hlen, Nat.min_self]
      rw [e]
      show r64_0 (lenI r.2.2.1) (r.2.2.1.length : Int) r = _
      unfold r64_0
      rw [ltI_out rfl]; rfl)
  rw [goL_all (fun (x : (Int × Unit) × (Int × Unit)) => moneyM x.1.1 && moneyM x.2.1)] at h
  have h' : l64_0 (lenI r.2.2.1) 0 r = _ := h
  rw [h']
  have hz : ∀ (a b : List (Int × Unit)), b.length = a.length → (a.zip b).all (fun x => moneyM x.1.1 && moneyM x.2.1) = (a.all (fun x => moneyM x.1) && b.all (fun x => moneyM x.1)) := by
    intro a
    induction a with
    | nil => intro b hb; cases b with | nil => rfl | cons _ _ => simp at hb
    | cons x a ih =>
      intro b hb
      cases b with
      | nil => simp at hb
      | cons y b =>
        simp only [List.zip_cons_cons, List.all_cons]
        rw [ih b (by simpa using hb)]
        cases moneyM x.1 <;> cases moneyM y.1 <;> simp
  rw [hz _ _ hlen]
  cases r.2.2.1.all (fun x => moneyM x.1) && r.2.2.2.1.all (fun x => moneyM x.1) <;> rfl
theorem concat_i (a b : List (Int × Unit)) (ha : a.length ≤ 1048576) (hb : b.length ≤ 1048576) : g169 [(a, ()), (b, ())] = some ((), ((a ++ b, ()), ())) := by
  have hbig : big = 140737488355328 := rfl
  unfold g169
  have hlen : ((a.length + b.length : Nat) : Int) = (a.length : Int) + b.length := by omega
  have h : l169_0 [(a, ()), (b, ())] 0 [(a, ()), (b, ())] 2 0 = some (.inl ([(a, ()), (b, ())], (a.length : Int) + b.length, [(a, ()), (b, ())], 2, 2, ())) := by
    refine loopF_step _ (x' := ([(a, ()), (b, ())], (a.length : Int), [(a, ()), (b, ())], 2, 1, ())) ?_ (loopF_step _ (x' := ([(a, ()), (b, ())], (a.length : Int) + b.length, [(a, ()), (b, ())], 2, 2, ())) ?_ (loopF_end _ ?_))
    · show r169_0 [(a, ()), (b, ())] 0 [(a, ()), (b, ())] 2 0 = _
      unfold r169_0
      have e : addW .i64 0 (lenI (gt d23 [(a, ()), (b, ())] 0).1) = (a.length : Int) := by
        show addW .i64 0 (lenI a) = _
        rw [addW_in (by unfold lenI; omega) (by unfold lenI; omega)]; unfold lenI; omega
      dsimp only
      rw [e, ltI_no (a := (a.length : Int)) (b := 0) (by omega)]; rfl
    · show r169_0 [(a, ()), (b, ())] (a.length : Int) [(a, ()), (b, ())] 2 1 = _
      unfold r169_0
      have e : addW .i64 (a.length : Int) (lenI (gt d23 [(a, ()), (b, ())] 1).1) = (a.length : Int) + b.length := by
        show addW .i64 (a.length : Int) (lenI b) = _
        rw [addW_in (by unfold lenI; omega) (by unfold lenI; omega)]; unfold lenI; omega
      dsimp only
      rw [e, ltI_no (a := (a.length : Int) + b.length) (b := 0) (by omega)]; rfl
    · rfl
  have h1 : l169_0 [(a, ()), (b, ())] 0 [(a, ()), (b, ())] (lenI [(a, ()), (b, ())]) 0 = _ := h
  have hg : g191 ((a.length : Int) + b.length) = some ((), (([], ()), ())) := by
    unfold g191
    dsimp only
    rw [ltI_no (by omega), subW_in (a := 0) (b := 0) (by decide) (by decide), subW_in (by omega) (by omega)]
    by_cases h0 : (0 : Int) < (a.length : Int) + b.length - (0 - 0)
    · have e2 : mzB 8 ((a.length : Int) + b.length - (0 - 0)) = true := by
        unfold mzB leI
        rw [decide_eq_true (by omega), decide_eq_true (by rw [hbig]; omega)]; rfl
      have e3 : cutB 0 0 (repI d3 ((a.length : Int) + b.length - (0 - 0))) = true := by
        unfold cutB cutOk leI
        rw [decide_eq_true (by decide), decide_eq_true (by omega)]; rfl
      rw [ltI_yes h0, e2, e3]
      rfl
    · rw [ltI_no h0]; rfl
  have h2 : l169_2 [] [(a, ()), (b, ())] 2 0 = some (.inl (a ++ b, [(a, ()), (b, ())], 2, 2, ())) := by
    refine loopF_step _ (x' := (a, [(a, ()), (b, ())], 2, 1, ())) ?_ (loopF_step _ (x' := (a ++ b, [(a, ()), (b, ())], 2, 2, ())) ?_ (loopF_end _ ?_))
    · show r169_2 [] [(a, ()), (b, ())] 2 0 = _
      unfold r169_2
      have e : fitB 8 ([] : List (Int × Unit)) (gt d23 [(a, ()), (b, ())] 0).1 = true := Nat.ble_eq_true_of_le (by show (0 + a.length) * 8 ≤ big; omega)
      rw [e]; rfl
    · show r169_2 a [(a, ()), (b, ())] 2 1 = _
      unfold r169_2
      have e : fitB 8 a (gt d23 [(a, ()), (b, ())] 1).1 = true := Nat.ble_eq_true_of_le (by show (a.length + b.length) * 8 ≤ big; omega)
      rw [e]; rfl
    · rfl
  have h2' : l169_2 [] [(a, ()), (b, ())] (lenI [(a, ()), (b, ())]) 0 = _ := h2
  rw [h1]
  dsimp only [Option.bind_some, Sum.elim_inl]
  rw [hg]
  dsimp only [Option.bind_some, Sum.elim_inl]
  rw [h2']; rfl
theorem ring_i (r : RingT) (hb : RingB r) : g128 r = some ((), ((ringM r, ()), ())) := by
  have hbig : big = 140737488355328 := rfl
  obtain ⟨hb1, hb2⟩ := hb
  unfold g128
  rw [concat_i _ _ hb1 hb2]
  dsimp only [Option.bind_some]
  have h := loop_list (step := fun (x : Int × (List (Int × Unit)) × Int × Int × RingT × Unit) => r128_0 x.1 x.2.1 x.2.2.1 x.2.2.2.1 x.2.2.2.2.1) (r.2.2.1 ++ r.2.2.2.1) (fun i (_ : Unit) => (lenI r.2.2.1, r.2.2.1 ++ r.2.2.2.1, lenI (r.2.2.1 ++ r.2.2.2.1), ((i : Nat) : Int), r, ())) (fun _ x _ => bif moneyM x.1 then Sum.inl () else .inr (.inr (false, ()))) (fun _ => .inl (lenI r.2.2.1, r.2.2.1 ++ r.2.2.2.1, lenI (r.2.2.1 ++ r.2.2.2.1), ((r.2.2.1 ++ r.2.2.2.1).length : Int), r, ())) (a0 := ()) (fun i x a hx => by
      have hlt := lt_of_get hx
      rw [List.length_append] at hlt
      show r128_0 (lenI r.2.2.1) (r.2.2.1 ++ r.2.2.2.1) (lenI (r.2.2.1 ++ r.2.2.2.1)) (i : Int) r = _
      unfold r128_0
      rw [ltI_in hx, inB_in hx, gt_in _ hx, money_i, addW1 (by omega)]
      dsimp only [cond_true, Option.bind_some]
      cases moneyM x.1 <;> rfl) (fun a => by
      show r128_0 (lenI r.2.2.1) (r.2.2.1 ++ r.2.2.2.1) (lenI (r.2.2.1 ++ r.2.2.2.1)) ((r.2.2.1 ++ r.2.2.2.1).length : Int) r = _
      unfold r128_0
      rw [ltI_out rfl]; rfl)
  rw [goL_all (fun (x : Int × Unit) => moneyM x.1)] at h
  have h' : l128_0 (lenI r.2.2.1) (r.2.2.1 ++ r.2.2.2.1) (lenI (r.2.2.1 ++ r.2.2.2.1)) 0 r = _ := h
  rw [h', List.all_append]
  unfold ringM
  cases r.2.2.1.all (fun x => moneyM x.1) && r.2.2.2.1.all (fun x => moneyM x.1) with
  | false =>
    cases inM r.1 1 1000 <;> cases inM (lenI r.2.2.1) 1 8 <;> cases eqI (lenI r.2.2.2.1) (lenI r.2.2.1) <;> cases timeM r.2.1 <;> rfl
  | true =>
    dsimp only [cond_true, Option.bind_some, Sum.elim_inl]
    rw [in_i, in_i, time_i]
    dsimp only [Option.bind_some]
    cases inM r.1 1 1000 <;> cases inM (lenI r.2.2.1) 1 8 <;> cases eqI (lenI r.2.2.2.1) (lenI r.2.2.1) <;> cases timeM r.2.1 <;> rfl
def slotM (s : SlotT) : Bool := cond (cond (digitsM s.1) (eqI (lenI s.1) 6) false) (cond (cond (digitsM s.2.1) (eqI (lenI s.2.1) 4) false) (inM (lenI s.2.2.1) 1 200) false) false
def SlotB (s : SlotT) : Prop := s.1.length ≤ big ∧ s.2.1.length ≤ big
theorem slot_s (s : SlotT) (hb : SlotB s) : g121 s = some ((), ((slotM s, ()), ())) := by
  unfold g121 slotM
  rw [digits_s _ hb.1, digits_s _ hb.2]
  dsimp only [Option.bind_some]
  rw [in_s]
  cases cond (digitsM s.1) (eqI (lenI s.1) 6) false <;> cases cond (digitsM s.2.1) (eqI (lenI s.2.1) 4) false <;> rfl
theorem slot_i (s : SlotT) (hb : SlotB s) : g170 s = some ((), ((slotM s, ()), ())) := by
  unfold g170 g98 slotM
  rw [digits_i _ hb.1, digits_i _ hb.2]
  dsimp only [Option.bind_some]
  rw [in_i]
  cases cond (digitsM s.1) (eqI (lenI s.1) 6) false <;> cases cond (digitsM s.2.1) (eqI (lenI s.2.1) 4) false <;> rfl
def sameSlot (a b : SlotT) : Bool := cond (eqS a.1 b.1) (eqS a.2.1 b.2.1) false
def slotStep (xs : List SlotT) (i : Nat) (x : SlotT) : Bool := cond (slotM x) ((xs.take i).all (fun y => !sameSlot y x)) false
def slotsM (xs : List SlotT) : Bool := cond (allI (slotStep xs) 0 xs) (leI (lenI xs) 6) false
def SlotsB (xs : List SlotT) : Prop := xs.length ≤ 1048576 ∧ ∀ y ∈ xs, SlotB y
theorem sub_take {α : Type} (xs : List α) (i : Nat) : sub xs 0 (i : Int) = xs.take i := by unfold sub; simp
theorem cutB_take {α : Type} {xs : List α} {i : Nat} (h : i ≤ xs.length) : cutB 0 (i : Int) xs = true := by
  unfold cutB cutOk leI
  rw [decide_eq_true (by decide), decide_eq_true (by omega), decide_eq_true (by omega)]; rfl
theorem slots_s (xs : List SlotT) (hb : SlotsB xs) : g65 xs = some ((), ((slotsM xs, ()), ())) := by
  have hbig : big = 140737488355328 := rfl
  have hb1 := hb.1
  unfold g65
  have inner : ∀ (i : Nat) (x : SlotT), i ≤ xs.length → l65_2 xs xs (lenI xs) (i : Int) (xs.take i) (lenI (xs.take i)) 0 x = some (bif (xs.take i).all (fun y => !sameSlot y x) then .inl (xs, xs, lenI xs, (i : Int), xs.take i, lenI (xs.take i), ((xs.take i).length : Int), x, ()) else .inr (false, ())) := fun i x hi => by
    have hti : (xs.take i).length ≤ xs.length := by rw [List.length_take]; exact Nat.min_le_right _ _
    have h := loop_list (step := fun (z : (List SlotT) × (List SlotT) × Int × Int × (List SlotT) × Int × Int × SlotT × Unit) => r65_2 z.1 z.2.1 z.2.2.1 z.2.2.2.1 z.2.2.2.2.1 z.2.2.2.2.2.1 z.2.2.2.2.2.2.1 z.2.2.2.2.2.2.2.1) (xs.take i) (fun j (_ : Unit) => (xs, xs, lenI xs, (i : Int), xs.take i, lenI (xs.take i), ((j : Nat) : Int), x, ())) (fun _ y _ => bif !sameSlot y x then Sum.inl () else .inr (.inr (false, ()))) (fun _ => .inl (xs, xs, lenI xs, (i : Int), xs.take i, lenI (xs.take i), ((xs.take i).length : Int), x, ())) (a0 := ()) (fun j y a hy => by
        have hlt := lt_of_get hy
        show r65_2 xs xs (lenI xs) (i : Int) (xs.take i) (lenI (xs.take i)) (j : Int) x = _
        unfold r65_2 sameSlot
        rw [ltI_in hy, inB_in hy, gt_in _ hy, addW1 (by omega)]
        dsimp only [cond_true]
        cases cond (eqS y.1 x.1) (eqS y.2.1 x.2.1) false <;> rfl) (fun a => by
        show r65_2 xs xs (lenI xs) (i : Int) (xs.take i) (lenI (xs.take i)) ((xs.take i).length : Int) x = _
        unfold r65_2
        rw [ltI_out rfl]; rfl)
    rw [goL_all (fun y => !sameSlot y x)] at h
    exact h
  have h := loop_list (step := fun (x : (List SlotT) × (List SlotT) × Int × Int × Unit) => r65_0 x.1 x.2.1 x.2.2.1 x.2.2.2.1) xs (fun i (_ : Unit) => (xs, xs, lenI xs, ((i : Nat) : Int), ())) (fun i x _ => bif slotStep xs i x then Sum.inl () else .inr (.inr (false, ()))) (fun _ => .inl (xs, xs, lenI xs, (xs.length : Int), ())) (a0 := ()) (fun i x a hx => by
      have hlt := lt_of_get hx
      show r65_0 xs xs (lenI xs) (i : Int) = _
      unfold r65_0 slotStep
      rw [ltI_in hx, inB_in hx, gt_in _ hx]
      dsimp only [cond_true]
      rw [slot_s x (hb.2 x (List.mem_of_getElem? hx)), cutB_take (Nat.le_of_lt hlt), sub_take]
      dsimp only [cond_true, Option.bind_some]
      rw [inner i x (Nat.le_of_lt hlt)]
      cases slotM x with
      | false => rfl
      | true =>
        cases (xs.take i).all (fun y => !sameSlot y x) with
        | false => rfl
        | true =>
          dsimp only [cond_true, cond_false, Bool.not_true, Option.bind_some, Sum.elim_inl]
          rw [addW1 (by omega)]; rfl) (fun a => by
      show r65_0 xs xs (lenI xs) (xs.length : Int) = _
      unfold r65_0
      rw [ltI_out rfl]; rfl)
  rw [goL_allI] at h
  have h' : l65_0 xs xs (lenI xs) 0 = _ := h
  rw [h']
  unfold slotsM
  cases allI (slotStep xs) 0 xs <;> rfl
def findI {α : Type} (p : α → Bool) : Nat → List α → Int
  | _, [] => -1
  | i, x :: r => bif p x then (i : Int) else findI p (i + 1) r
theorem goL_find {α Y : Type} (p : α → Bool) (y : Int → Y) (z : Y) (out : Y → Int) (hy : ∀ n, out (y n) = n) (hz : out z = -1) : ∀ (xs : List α) (i : Nat), out (goL (fun i x _ => bif p x then Sum.inr (y (i : Int)) else .inl ()) (fun _ => z) i xs ()) = findI p i xs
  | [], _ => hz
  | x :: r, i => by
    rw [goL, findI]
    cases hp : p x with
    | true => exact hy _
    | false => exact goL_find p y z out hy hz r (i + 1)
theorem findI_eq {α : Type} (p : α → Bool) : ∀ {xs : List α} {i : Nat} {x : α} (k : Nat), xs[i]? = some x → p x = true → (findI p k xs = ((k + i : Nat) : Int) ↔ (xs.take i).all (fun y => !p y) = true)
  | [], i, x, k, h, _ => by simp at h
  | y :: r, 0, x, k, h, hp => by
    simp only [List.getElem?_cons_zero, Option.some.injEq] at h
    subst h
    rw [findI, hp]; simp
  | y :: r, i + 1, x, k, h, hp => by
    have ih := findI_eq p (xs := r) (i := i) (x := x) (k + 1) (by simpa using h) hp
    rw [findI, List.take_succ_cons, List.all_cons]
    cases hy : p y with
    | true =>
      simp only [cond_true, Bool.not_true, Bool.false_and, Bool.false_eq_true, iff_false]
      omega
    | false =>
      simp only [cond_false, Bool.not_false, Bool.true_and]
      rw [← ih, show k + 1 + i = k + (i + 1) by omega]
theorem slotAt_i (xs : List SlotT) (a b : List UInt8) (hs : xs.length ≤ 1048576) : g171 xs a b = some ((), ((findI (fun y => cond (eqS y.1 a) (eqS y.2.1 b) false) 0 xs, ()), ())) := by
  have hbig : big = 140737488355328 := rfl
  unfold g171 g192
  have h := loop_list (step := fun (z : (List SlotT) × (((List UInt8) × Unit) × ((List UInt8) × Unit) × Unit) × Int × Int × Unit) => r192_0 z.1 z.2.1 z.2.2.1 z.2.2.2.1) xs (fun i (_ : Unit) => (xs, ((a, ()), (b, ()), ()), lenI xs, ((i : Nat) : Int), ())) (fun i y _ => bif cond (eqS y.1 a) (eqS y.2.1 b) false then Sum.inr (.inr ((i : Int), ())) else Sum.inl ()) (fun _ => .inl (xs, ((a, ()), (b, ()), ()), lenI xs, (xs.length : Int), ())) (a0 := ()) (fun i y u hy => by
      have hlt := lt_of_get hy
      show r192_0 xs ((a, ()), (b, ()), ()) (lenI xs) (i : Int) = _
      unfold r192_0 g193
      rw [ltI_in hy, inB_in hy, gt_in _ hy, addW1 (by omega)]
      dsimp only [cond_true, Option.bind_some]
      cases cond (eqS y.1 a) (eqS y.2.1 b) false <;> rfl) (fun u => by
      show r192_0 xs ((a, ()), (b, ()), ()) (lenI xs) (xs.length : Int) = _
      unfold r192_0
      rw [ltI_out rfl]; rfl)
  have h' : l192_0 xs ((a, ()), (b, ()), ()) (lenI xs) 0 = _ := h
  rw [h']
  have hf := goL_find (Y := Sum ((List SlotT) × (((List UInt8) × Unit) × ((List UInt8) × Unit) × Unit) × Int × Int × Unit) (Int × Unit)) (fun (y : SlotT) => cond (eqS y.1 a) (eqS y.2.1 b) false) (fun n => .inr (n, ())) (.inl (xs, ((a, ()), (b, ()), ()), lenI xs, (xs.length : Int), ())) (fun y => match y with | .inl _ => -1 | .inr z => z.1) (fun _ => rfl) rfl xs 0
  rw [← hf]
  dsimp only [Option.bind_some]
  cases goL _ _ 0 xs () <;> rfl
theorem slots_i (xs : List SlotT) (hb : SlotsB xs) : g129 xs = some ((), ((slotsM xs, ()), ())) := by
  have hbig : big = 140737488355328 := rfl
  have hb1 := hb.1
  unfold g129
  have h := loop_list (step := fun (x : (List SlotT) × (List SlotT) × Int × Int × Unit) => r129_0 x.1 x.2.1 x.2.2.1 x.2.2.2.1) xs (fun i (_ : Unit) => (xs, xs, lenI xs, ((i : Nat) : Int), ())) (fun i x _ => bif slotStep xs i x then Sum.inl () else .inr (.inr (false, ()))) (fun _ => .inl (xs, xs, lenI xs, (xs.length : Int), ())) (a0 := ()) (fun i x a hx => by
      have hlt := lt_of_get hx
      show r129_0 xs xs (lenI xs) (i : Int) = _
      unfold r129_0 slotStep
      rw [ltI_in hx, inB_in hx, gt_in _ hx]
      dsimp only [cond_true]
      rw [slot_i x (hb.2 x (List.mem_of_getElem? hx))]
      dsimp only [cond_true, Option.bind_some]
      rw [slotAt_i xs _ _ hb1, addW1 (by omega)]
      have hp : cond (eqS x.1 x.1) (eqS x.2.1 x.2.1) false = true := by rw [eqS_refl, eqS_refl]; rfl
      have hk := findI_eq (fun (y : SlotT) => cond (eqS y.1 x.1) (eqS y.2.1 x.2.1) false) 0 hx hp
      rw [Nat.zero_add, ← eqI_iff] at hk
      have hk' : eqI (findI (fun (y : SlotT) => cond (eqS y.1 x.1) (eqS y.2.1 x.2.1) false) 0 xs) (i : Int) = (xs.take i).all (fun y => !sameSlot y x) := by
        rw [Bool.eq_iff_iff]; exact hk
      cases slotM x with
      | false => rfl
      | true =>
        dsimp only [cond_true, cond_false, Bool.not_true, Option.bind_some]
        rw [hk']
        cases (xs.take i).all (fun y => !sameSlot y x) <;> rfl) (fun a => by
      show r129_0 xs xs (lenI xs) (xs.length : Int) = _
      unfold r129_0
      rw [ltI_out rfl]; rfl)
  rw [goL_allI] at h
  have h' : l129_0 xs xs (lenI xs) 0 = _ := h
  rw [h']
  unfold slotsM
  cases allI (slotStep xs) 0 xs <;> rfl
abbrev AcctT := List UInt8 × Int × Int × Int × Int × List HoldT × Int × Int × List (Int × Unit) × List (Int × Unit) × List SlotT × Unit
def rgOf (a : AcctT) : RingT := (a.2.2.2.2.2.2.1, a.2.2.2.2.2.2.2.1, a.2.2.2.2.2.2.2.2.1, a.2.2.2.2.2.2.2.2.2.1, ())
def AcctB (a : AcctT) : Prop := a.1.length ≤ 1048576 ∧ (a.2.2.2.2.2.1.length ≤ 1048576 ∧ ∀ y ∈ a.2.2.2.2.2.1, y.1.length ≤ 1048576) ∧ RingB (rgOf a) ∧ a.2.2.2.2.2.2.2.2.2.2.1.length ≤ 1048576 ∧ ∀ y ∈ a.2.2.2.2.2.2.2.2.2.2.1, y.1.length ≤ 1048576 ∧ y.2.1.length ≤ 1048576 ∧ y.2.2.1.length ≤ 1048576
theorem le_big {n : Nat} (h : n ≤ 1048576) : n ≤ big := Nat.le_trans h (by decide)
theorem AcctB.hs {a : AcctT} (h : AcctB a) : HoldsB a.2.2.2.2.2.1 := ⟨le_big h.2.1.1, fun y hy => le_big (h.2.1.2 y hy)⟩
theorem AcctB.ss {a : AcctT} (h : AcctB a) : SlotsB a.2.2.2.2.2.2.2.2.2.2.1 := ⟨h.2.2.2.1, fun y hy => ⟨le_big (h.2.2.2.2 y hy).1, le_big (h.2.2.2.2 y hy).2.1⟩⟩
def acctM (a : AcctT) : Bool := cond (acctIdM a.1) (cond (inM a.2.1 0 9007199254740992) (cond (inM a.2.2.2.1 0 1000) (cond (inM a.2.2.2.2.1 0 9007199254740992) (cond (moneyM a.2.2.1) (cond (holdsM a.2.2.2.2.2.1) (cond (ringM (rgOf a)) (cond (slotsM a.2.2.2.2.2.2.2.2.2.2.1) (leI (satM a.2.2.1 (storedM a.2.2.2.2.2.1)) a.2.1) false) false) false) false) false) false) false) false
theorem acct_s (a : AcctT) (hb : AcctB a) : g22 a = some ((), ((acctM a, ()), ())) := by
  have h1 := acctId_s a.1 (le_big hb.1)
  have h2 := holds_s _ hb.hs
  have h3 : g64 (a.2.2.2.2.2.2.1, a.2.2.2.2.2.2.2.1, a.2.2.2.2.2.2.2.2.1, a.2.2.2.2.2.2.2.2.2.1, ()) = _ := ring_s (rgOf a) hb.2.2.1
  have h4 := slots_s _ hb.ss
  have h5 := stored_s _ hb.hs.1
  unfold g22 acctM
  rw [h1, h2, h3, h4, h5, in_s, in_s, in_s, money_s]
  dsimp only [Option.bind_some]
  rw [sat_s]
  dsimp only [Option.bind_some]
  cases acctIdM a.1 <;> first | rfl | skip
  cases inM a.2.1 0 9007199254740992 <;> first | rfl | skip
  cases inM a.2.2.2.1 0 1000 <;> first | rfl | skip
  cases inM a.2.2.2.2.1 0 9007199254740992 <;> first | rfl | skip
  cases moneyM a.2.2.1 <;> first | rfl | skip
  cases holdsM a.2.2.2.2.2.1 <;> first | rfl | skip
  cases ringM (rgOf a) <;> first | rfl | skip
  cases slotsM a.2.2.2.2.2.2.2.2.2.2.1 <;> rfl
theorem acct_i (a : AcctT) (hb : AcctB a) : g73 a = some ((), ((acctM a, ()), ())) := by
  have h1 := acctId_i a.1 (le_big hb.1)
  have h2 := holds_i _ hb.hs
  have h3 : g128 (a.2.2.2.2.2.2.1, a.2.2.2.2.2.2.2.1, a.2.2.2.2.2.2.2.2.1, a.2.2.2.2.2.2.2.2.2.1, ()) = _ := ring_i (rgOf a) hb.2.2.1
  have h4 := slots_i _ hb.ss
  have h5 := stored_i _ hb.hs.1
  unfold g73 acctM
  rw [h1, h2, h3, h4, h5, in_i, in_i, in_i, money_i]
  dsimp only [Option.bind_some]
  rw [sat_i]
  dsimp only [Option.bind_some]
  cases acctIdM a.1 <;> first | rfl | skip
  cases inM a.2.1 0 9007199254740992 <;> first | rfl | skip
  cases inM a.2.2.2.1 0 1000 <;> first | rfl | skip
  cases inM a.2.2.2.2.1 0 9007199254740992 <;> first | rfl | skip
  cases moneyM a.2.2.1 <;> first | rfl | skip
  cases holdsM a.2.2.2.2.2.1 <;> first | rfl | skip
  cases ringM (rgOf a) <;> first | rfl | skip
  cases slotsM a.2.2.2.2.2.2.2.2.2.2.1 <;> rfl
theorem fitB_nil {α : Type} {b : Nat} {xs : List α} (h : xs.length * b ≤ big) : fitB b ([] : List α) xs = true := Nat.ble_eq_true_of_le (by simpa using h)
theorem ringCp_i (r : RingT) (hb : RingB r) : g154 r = some ((), (r, ())) := by
  have hbig : big = 140737488355328 := rfl
  obtain ⟨h1, h2⟩ := hb
  unfold g154 g185
  rw [fitB_nil (by omega), fitB_nil (by omega)]; rfl
theorem slotsCp_i (xs : List SlotT) (hs : xs.length ≤ 1048576) (hb : ∀ y ∈ xs, y.2.2.1.length ≤ 1048576) : g155 xs = some ((), ((xs, ()), ())) := by
  have hbig : big = 140737488355328 := rfl
  unfold g155
  have h := loop_inv (step := fun (z : (List SlotT) × (List SlotT) × Int × Int × Unit) => r155_0 z.1 z.2.1 z.2.2.1 z.2.2.2.1) xs (fun i (a : List SlotT) => (a, xs, lenI xs, ((i : Nat) : Int), ())) (fun _ x a => Sum.inl (a ++ [x])) (fun a => .inl (a, xs, lenI xs, (xs.length : Int), ())) (fun i a => a.length = i) (a0 := []) rfl (fun i x a hx ha => by
      have hlt := lt_of_get hx
      have hm := hb x (List.mem_of_getElem? hx)
      show r155_0 a xs (lenI xs) (i : Int) = _
      unfold r155_0 g186
      have e : ∀ y : SlotT, fitB 56 a [y] = true := fun y => Nat.ble_eq_true_of_le (by simp; omega)
      rw [ltI_in hx, inB_in hx, gt_in _ hx]
      dsimp only [cond_true]
      rw [fitB_nil (by omega), addW1 (by omega)]
      dsimp only [cond_true, Option.bind_some]
      rw [e]
      rfl) (fun i x a a' hx ha hf => by
      simp only [Sum.inl.injEq] at hf
      rw [← hf, List.length_append, ha]; rfl) (fun a ha => by
      show r155_0 a xs (lenI xs) (xs.length : Int) = _
      unfold r155_0
      rw [ltI_out rfl]; rfl)
  rw [goL_cp] at h
  have h' : l155_0 [] xs (lenI xs) 0 = _ := h
  rw [h']; rfl
theorem acctCp_i (a : AcctT) (hb : AcctB a) : g104 a = some ((), (a, ())) := by
  have hbig : big = 140737488355328 := rfl
  have h1 := hb.2.1.1
  have h2 : g154 (a.2.2.2.2.2.2.1, a.2.2.2.2.2.2.2.1, a.2.2.2.2.2.2.2.2.1, a.2.2.2.2.2.2.2.2.2.1, ()) = _ := ringCp_i (rgOf a) hb.2.2.1
  have h3 := slotsCp_i _ hb.2.2.2.1 (fun y hy => (hb.2.2.2.2 y hy).2.2)
  unfold g104 g153
  rw [fitB_nil (by omega), h2, h3]; rfl
theorem goL_filter {α Y : Type} (p : α → Bool) (z : List α → Y) : ∀ (xs : List α) (i : Nat) (d : List α), goL (fun _ x (a : List α) => Sum.inl (bif p x then a ++ [x] else a)) z i xs d = z (d ++ xs.filter p)
  | [], _, d => by simp [goL]
  | x :: r, i, d => by
    rw [goL]
    simp only
    rw [goL_filter p z r (i + 1)]
    cases hp : p x with
    | true => simp [hp]
    | false => simp [hp]
def liveM (now : Int) (h : HoldT) : Bool := ltI now h.2.2.1
theorem live_s (xs : List HoldT) (now : Int) (hs : xs.length ≤ 1048576) : g124 xs now = some ((), ((xs.filter (liveM now), ()), ())) := by
  have hbig : big = 140737488355328 := rfl
  unfold g124
  have h := loop_inv (step := fun (z : Int × (List HoldT) × (List HoldT) × Int × Int × Unit) => r124_0 z.1 z.2.1 z.2.2.1 z.2.2.2.1 z.2.2.2.2.1) xs (fun i (a : List HoldT) => (now, a, xs, lenI xs, ((i : Nat) : Int), ())) (fun _ x a => Sum.inl (bif liveM now x then a ++ [x] else a)) (fun a => .inl (now, a, xs, lenI xs, (xs.length : Int), ())) (fun i a => a.length ≤ i) (a0 := []) (Nat.le_refl _) (fun i x a hx ha => by
      have hlt := lt_of_get hx
      show r124_0 now a xs (lenI xs) (i : Int) = _
      unfold r124_0 g167 liveM
      have e : ∀ y : HoldT, fitB 32 a [y] = true := fun y => Nat.ble_eq_true_of_le (by simp; omega)
      rw [ltI_in hx, inB_in hx, gt_in _ hx]
      dsimp only [cond_true, Option.bind_some]
      rw [e, addW1 (by omega)]
      cases ltI now x.2.2.1 <;> rfl) (fun i x a a' hx ha hf => by
      simp only [Sum.inl.injEq] at hf
      rw [← hf]
      cases liveM now x with
      | true => simp; omega
      | false => simp; omega) (fun a ha => by
      show r124_0 now a xs (lenI xs) (xs.length : Int) = _
      unfold r124_0
      rw [ltI_out rfl]; rfl)
  rw [goL_filter] at h
  have h' : l124_0 now [] xs (lenI xs) 0 = _ := h
  rw [h']; rfl
theorem idxLive_i (xs : List HoldT) (now : Int) (hs : xs.length ≤ 1048576) : g156 xs (now, ()) = some ((), ((findI (fun y => !liveM now y) 0 xs, ()), ())) := by
  have hbig : big = 140737488355328 := rfl
  unfold g156
  have h := loop_list (step := fun (z : (List HoldT) × ((Int × Unit) × Unit) × Int × Int × Unit) => r156_0 z.1 z.2.1 z.2.2.1 z.2.2.2.1) xs (fun i (_ : Unit) => (xs, ((now, ()), ()), lenI xs, ((i : Nat) : Int), ())) (fun i y _ => bif !liveM now y then Sum.inr (.inr ((i : Int), ())) else Sum.inl ()) (fun _ => .inl (xs, ((now, ()), ()), lenI xs, (xs.length : Int), ())) (a0 := ()) (fun i y u hy => by
      have hlt := lt_of_get hy
      show r156_0 xs ((now, ()), ()) (lenI xs) (i : Int) = _
      unfold r156_0 g172 g173 liveM
      rw [ltI_in hy, inB_in hy, gt_in _ hy, addW1 (by omega)]
      dsimp only [cond_true, Option.bind_some]
      cases ltI now y.2.2.1 <;> rfl) (fun u => by
      show r156_0 xs ((now, ()), ()) (lenI xs) (xs.length : Int) = _
      unfold r156_0
      rw [ltI_out rfl]; rfl)
  have h' : l156_0 xs ((now, ()), ()) (lenI xs) 0 = _ := h
  rw [h']
  have hf := goL_find (Y := Sum ((List HoldT) × ((Int × Unit) × Unit) × Int × Int × Unit) (Int × Unit)) (fun (y : HoldT) => !liveM now y) (fun n => .inr (n, ())) (.inl (xs, ((now, ()), ()), lenI xs, (xs.length : Int), ())) (fun y => match y with | .inl _ => -1 | .inr z => z.1) (fun _ => rfl) rfl xs 0
  rw [← hf]
  dsimp only [Option.bind_some]
  cases goL _ _ 0 xs () <;> rfl
theorem findI_none {α : Type} (p : α → Bool) : ∀ (xs : List α) (k : Nat), findI p k xs = -1 → xs.filter (fun y => !p y) = xs
  | [], _, _ => rfl
  | x :: r, k, h => by
    rw [findI] at h
    cases hp : p x with
    | true => rw [hp] at h; simp only [cond_true] at h; omega
    | false =>
      rw [hp] at h
      simp only [cond_false] at h
      rw [List.filter_cons_of_pos (by simp [hp]), findI_none p r (k + 1) h]
theorem findI_some {α : Type} (p : α → Bool) : ∀ (xs : List α) (k : Nat), findI p k xs ≠ -1 → ∃ i x, findI p k xs = ((k + i : Nat) : Int) ∧ xs[i]? = some x ∧ p x = true ∧ (xs.take i).filter (fun y => !p y) = xs.take i
  | [], _, h => absurd rfl h
  | x :: r, k, h => by
    rw [findI] at h ⊢
    cases hp : p x with
    | true => exact ⟨0, x, by simp, rfl, hp, rfl⟩
    | false =>
      rw [hp] at h
      simp only [cond_false] at h ⊢
      obtain ⟨i, y, h1, h2, h3, h4⟩ := findI_some p r (k + 1) h
      refine ⟨i + 1, y, by rw [h1]; omega, by simpa using h2, h3, ?_⟩
      rw [List.take_succ_cons, List.filter_cons_of_pos (by simp [hp]), h4]
theorem set_len {α : Type} {done : List α} {x y : α} {r : List α} {i : Nat} (h : done.length = i) : (done ++ x :: r).set i y = done ++ y :: r := by
  subst h; simp [List.set_append]
theorem delete_i (xs : List HoldT) (now : Int) (hs : xs.length ≤ 1048576) : g162 xs (now, ()) = some ((), ((xs.filter (liveM now), ()), ())) := by
  have hbig : big = 140737488355328 := rfl
  have hnn : (fun y : HoldT => !(!liveM now y)) = liveM now := by funext y; simp
  unfold g162
  rw [idxLive_i xs now hs]
  dsimp only [Option.bind_some]
  by_cases hf : findI (fun y => !liveM now y) 0 xs = -1
  · have := findI_none _ _ _ hf
    rw [hnn] at this
    rw [hf, this]; rfl
  · obtain ⟨k, x0, h1, h2, h3, h4⟩ := findI_some _ _ _ hf
    rw [hnn] at h4
    rw [Nat.zero_add] at h1
    have hk := lt_of_get h2
    have he : eqI (k : Int) (-1) = false := by unfold eqI; rw [beq_eq_false_iff_ne]; omega
    rw [h1, he, addW1 (by omega)]
    dsimp only [cond_false]
    obtain ⟨⟨cur, i⟩, hI, hl⟩ := loop_post (step := fun (z : (List HoldT) × ((Int × Unit) × Unit) × Int × Int × Unit) => r162_0 z.1 z.2.1 z.2.2.1 z.2.2.2.1) xs (fun j (a : List HoldT × Nat) => (a.1, ((now, ()), ()), (a.2 : Int), ((j : Nat) : Int), ())) (fun a => .inl (a.1, ((now, ()), ()), (a.2 : Int), (xs.length : Int), ())) (fun j a => a.1.length = xs.length ∧ a.2 < j ∧ a.1.take a.2 = (xs.take j).filter (liveM now) ∧ a.1.drop j = xs.drop j) (fun j x a hx ha => by
        obtain ⟨cur, i⟩ := a
        obtain ⟨ha1, ha2, ha3, ha4⟩ := ha
        simp only at ha1 ha2 ha3 ha4
        have hlt := lt_of_get hx
        have hcx : cur[j]? = some x := by
          have e1 : (cur.drop j)[0]? = some x := by rw [ha4, List.getElem?_drop, Nat.add_zero]; exact hx
          rw [List.getElem?_drop, Nat.add_zero] at e1
          exact e1
        have hdr : cur.drop (j + 1) = xs.drop (j + 1) := by
          have := congrArg List.tail ha4
          simpa using this
        have hst : r162_0 cur ((now, ()), ()) (i : Int) (j : Int) = some (.inl (bif liveM now x then (cur.set i x, ((now, ()), ()), ((i + 1 : Nat) : Int), ((j + 1 : Nat) : Int), ()) else (cur, ((now, ()), ()), (i : Int), ((j + 1 : Nat) : Int), ()))) := by
          unfold r162_0 g172 g173 liveM
          have hi : i < cur.length := by omega
          have hsp : cur = cur.take i ++ cur[i] :: cur.drop (i + 1) := by
            rw [← List.drop_eq_getElem_cons hi, List.take_append_drop]
          have htl : (cur.take i).length = i := by rw [List.length_take]; omega
          rw [ltI_in hcx, inB_in hcx, gt_in _ hcx, inB_lt hi, addW1 (show j ≤ big by omega), addW1 (show i ≤ big by omega)]
          dsimp only [cond_true, Option.bind_some]
          cases ltI now x.2.2.1 with
          | false => rfl
          | true =>
            dsimp only [cond_true, cond_false, Bool.not_true, Bool.not_false]
            generalize hci : cur[i] = ci at hsp
            generalize hD : cur.drop (i + 1) = D at hsp
            generalize hT : cur.take i = T at hsp htl
            rw [hsp]
            simp only [gt_mid _ htl, stI_mid htl, set_len htl]
            rfl
        cases hlv : liveM now x with
        | true =>
          rw [hlv] at hst
          refine ⟨(cur.set i x, i + 1), hst, by simp [ha1], by omega, ?_, ?_⟩
          · show (cur.set i x).take (i + 1) = _
            have hi : i < cur.length := by omega
            rw [List.take_add_one, List.getElem?_set_self hi, List.take_set_of_le (Nat.le_refl _), ha3, List.take_add_one, hx]
            simp [List.filter_append, hlv]
          · show (cur.set i x).drop (j + 1) = _
            rw [List.drop_set_of_lt (by omega), hdr]
        | false =>
          rw [hlv] at hst
          refine ⟨(cur, i), hst, ha1, by omega, ?_, hdr⟩
          show cur.take i = _
          rw [ha3, List.take_add_one, hx]
          simp [List.filter_append, hlv]) (fun a ha => by
        show r162_0 a.1 ((now, ()), ()) (a.2 : Int) (xs.length : Int) = _
        unfold r162_0
        rw [ltI_out ha.1]; rfl) (xs.length - (k + 1)) (k + 1) (xs, k) (by omega) ⟨rfl, by omega, by
        show xs.take k = _
        have hx0 : liveM now x0 = false := by simpa using h3
        rw [List.take_add_one, h2, List.filter_append, h4]
        simp [hx0], rfl⟩
    obtain ⟨i1, i2, i3, _⟩ := hI
    simp only at i1 i2 i3
    have hl' : l162_0 xs ((now, ()), ()) (k : Int) ((k + 1 : Nat) : Int) = some (.inl (cur, ((now, ()), ()), (i : Int), (xs.length : Int), ())) := hl
    rw [hl']
    dsimp only [Option.bind_some, Sum.elim_inl]
    have c1 : cutB (i : Int) (lenI cur) cur = true := by
      unfold cutB cutOk leI lenI
      rw [decide_eq_true (by omega), decide_eq_true (by omega), decide_eq_true (by omega)]; rfl
    have c0 : (clrI ([], 0, 0, ()) cur (i : Int)) = cur.take i ++ List.replicate (cur.length - i) ([], 0, 0, ()) := by unfold clrI clr; simp
    have c3 : tkI (clrI d108 cur (i : Int)) (i : Int) = cur.take i := by
      show tkI (clrI ([], 0, 0, ()) cur (i : Int)) (i : Int) = _
      rw [c0]; unfold tkI
      have : (cur.take i).length = i := by rw [List.length_take]; omega
      simp only [Int.toNat_natCast]
      rw [List.take_append_of_le_length (by omega), List.take_of_length_le (by omega)]
    have c2 : cutB 0 (i : Int) (clrI d108 cur (i : Int)) = true := by
      show cutB 0 (i : Int) (clrI ([], 0, 0, ()) cur (i : Int)) = true
      rw [c0]; exact cutB_take (by simp; omega)
    rw [c1]
    dsimp only [cond_true]
    rw [c2, c3, i3, List.take_length]; rfl
theorem live_i (xs : List HoldT) (now : Int) (hs : xs.length ≤ 1048576) : g132 xs now = some ((), ((xs.filter (liveM now), ()), ())) := by
  have hbig : big = 140737488355328 := rfl
  unfold g132 g153
  rw [fitB_nil (by omega)]
  dsimp only [cond_true, Option.bind_some]
  rw [delete_i xs now hs]; rfl
def sweptM (a : AcctT) (now : Int) : AcctT := cond (acctM a) (cond (timeM now) (a.1, a.2.1, a.2.2.1, a.2.2.2.1, a.2.2.2.2.1, a.2.2.2.2.2.1.filter (liveM now), a.2.2.2.2.2.2.1, a.2.2.2.2.2.2.2.1, a.2.2.2.2.2.2.2.2.1, a.2.2.2.2.2.2.2.2.2.1, a.2.2.2.2.2.2.2.2.2.2.1, ()) a) a
theorem swept_i (a : AcctT) (now : Int) (hb : AcctB a) : g74 a now = some ((), (sweptM a now, ())) := by
  unfold g74 sweptM
  rw [acctCp_i a hb, acct_i a hb, time_i, live_i _ now hb.2.1.1]
  dsimp only [Option.bind_some]
  cases acctM a <;> cases timeM now <;> rfl
theorem swept_b {a : AcctT} (now : Int) (hb : AcctB a) : AcctB (sweptM a now) := by
  unfold sweptM
  cases acctM a with
  | false => exact hb
  | true =>
    cases timeM now with
    | false => exact hb
    | true =>
      obtain ⟨h1, ⟨h2, h3⟩, h4, h5, h6⟩ := hb
      exact ⟨h1, ⟨Nat.le_trans (List.length_filter_le _ _) h2, fun y hy => h3 y (List.mem_filter.1 hy).1⟩, h4, h5, h6⟩
def liveSumM (xs : List HoldT) (now : Int) : Int := storedM (xs.filter (liveM now))
theorem liveSum_s (xs : List HoldT) (now : Int) (hs : xs.length ≤ 1048576) : g69 xs now = some ((), ((liveSumM xs now, ()), ())) := by
  unfold g69
  rw [live_s xs now hs]
  dsimp only [Option.bind_some]
  rw [stored_s _ (le_big (Nat.le_trans (List.length_filter_le _ _) hs))]; rfl
theorem liveSum_i (xs : List HoldT) (now : Int) (hs : xs.length ≤ 1048576) : g78 xs now = some ((), ((liveSumM xs now, ()), ())) := by
  unfold g78
  rw [live_i xs now hs]
  dsimp only [Option.bind_some]
  rw [stored_i _ (le_big (Nat.le_trans (List.length_filter_le _ _) hs))]; rfl
def roomM (a : AcctT) (now : Int) : Int := cond (acctM a) (cond (timeM now) (subW .i64 (subW .i64 a.2.1 a.2.2.1) (liveSumM a.2.2.2.2.2.1 now)) 0) 0
theorem room_s (a : AcctT) (now : Int) (hb : AcctB a) : g25 a now = some ((), ((roomM a now, ()), ())) := by
  unfold g25 roomM
  rw [acct_s a hb, time_s, liveSum_s _ now hb.2.1.1]
  dsimp only [Option.bind_some]
  cases acctM a <;> cases timeM now <;> rfl
theorem room_i (a : AcctT) (now : Int) (hb : AcctB a) : g31 a now = some ((), ((roomM a now, ()), ())) := by
  unfold g31 roomM
  rw [acct_i a hb, time_i, liveSum_i _ now hb.2.1.1]
  dsimp only [Option.bind_some]
  cases acctM a <;> cases timeM now <;> rfl
theorem less_trans : ∀ s t u : List UInt8, Op.bytesLess s t = true → Op.bytesLess t u = true → Op.bytesLess s u = true
  | [], [], u, h, _ => by simp [Op.bytesLess] at h
  | _ :: _, [], u, h, _ => by simp [Op.bytesLess] at h
  | _, _ :: _, [], _, h => by simp [Op.bytesLess] at h
  | [], _ :: _, _ :: _, _, _ => by simp [Op.bytesLess]
  | x :: r, y :: t, z :: u, h1, h2 => by
    simp only [Op.bytesLess, Bool.or_eq_true, decide_eq_true_eq, Bool.and_eq_true, beq_iff_eq] at h1 h2 ⊢
    rcases h1 with h1 | ⟨rfl, h1⟩
    · rcases h2 with h2 | ⟨rfl, h2⟩
      · exact .inl (UInt8.lt_trans h1 h2)
      · exact .inl h1
    · rcases h2 with h2 | ⟨rfl, h2⟩
      · exact .inl h2
      · exact .inr ⟨rfl, less_trans r t u h1 h2⟩
theorem holdsM_len {xs : List HoldT} (h : holdsM xs = true) : xs.length ≤ 4 := by
  unfold holdsM at h
  cases ha : allI (holdStep xs) 0 xs with
  | false => rw [ha] at h; simp at h
  | true =>
    rw [ha] at h
    have : (lenI xs) ≤ 4 := of_decide_eq_true h
    unfold lenI at this; omega
theorem holdsM_sorted {xs : List HoldT} (h : holdsM xs = true) : xs.Pairwise fun a b => ltS a.1 b.1 = true := by
  unfold holdsM at h
  cases ha : allI (holdStep xs) 0 xs with
  | false => rw [ha] at h; simp at h
  | true =>
    have adj : ∀ i (h1 : i + 1 < xs.length), ltS (xs[i]'(by omega)).1 xs[i + 1].1 = true := fun i h1 => by
      have := allI_get _ ha (i := i + 1) (x := xs[i + 1]) (List.getElem?_eq_getElem h1)
      unfold holdStep at this
      cases hm : holdM xs[i + 1] with
      | false => rw [hm] at this; simp at this
      | true =>
        rw [hm, Nat.zero_add, ltI_yes (show (0 : Int) < ((i + 1 : Nat) : Int) by omega)] at this
        simp only [cond_true] at this
        rw [show ((i + 1 : Nat) : Int) - 1 = ((i : Nat) : Int) by omega, gt_in _ (List.getElem?_eq_getElem (show i < xs.length by omega))] at this
        exact this
    rw [List.pairwise_iff_getElem]
    intro i j hi hj hij
    obtain ⟨d, rfl⟩ : ∃ d, j = i + 1 + d := ⟨j - i - 1, by omega⟩
    induction d with
    | zero => exact adj i hj
    | succ d ih => exact less_trans _ _ _ (ih (by omega) (by omega)) (adj (i + 1 + d) hj)
theorem holdsM_all {xs : List HoldT} (h : holdsM xs = true) : ∀ x ∈ xs, holdM x = true := fun x hx => by
  unfold holdsM at h
  cases ha : allI (holdStep xs) 0 xs with
  | false => rw [ha] at h; simp at h
  | true =>
    obtain ⟨i, hi, e⟩ := List.getElem_of_mem hx
    have := allI_get _ ha (i := i) (x := x) (by rw [List.getElem?_eq_getElem hi, e])
    unfold holdStep at this
    cases hm : holdM x with
    | false => rw [hm] at this; simp at this
    | true => rfl
theorem allI_of {α : Type} (p : Nat → α → Bool) : ∀ (xs : List α) (k : Nat), (∀ i x, xs[i]? = some x → p (k + i) x = true) → allI p k xs = true
  | [], _, _ => rfl
  | x :: r, k, h => by
    unfold allI
    have h0 := h 0 x rfl
    rw [Nat.add_zero] at h0
    rw [h0, allI_of p r (k + 1) fun i y hy => by have := h (i + 1) y hy; rwa [show k + (i + 1) = k + 1 + i by omega] at this]; rfl
theorem holdsM_of {xs : List HoldT} (h1 : ∀ x ∈ xs, holdM x = true) (h2 : xs.Pairwise fun a b => ltS a.1 b.1 = true) (h3 : xs.length ≤ 4) : holdsM xs = true := by
  unfold holdsM
  rw [allI_of _ xs 0 fun i x hx => ?_]
  · simp only [cond_true]; exact decide_eq_true (by unfold lenI; omega)
  · have hi := lt_of_get hx
    have hxx : xs[i] = x := by have := List.getElem?_eq_getElem hi; rw [this] at hx; exact Option.some.inj hx
    unfold holdStep
    rw [h1 x (hxx ▸ List.getElem_mem hi), Nat.zero_add, cond_true]
    cases i with
    | zero => rfl
    | succ i =>
      rw [ltI_yes (show (0 : Int) < ((i + 1 : Nat) : Int) by omega), cond_true, show ((i + 1 : Nat) : Int) - 1 = ((i : Nat) : Int) by omega, gt_in _ (List.getElem?_eq_getElem (show i < xs.length by omega)), ← hxx]
      exact List.pairwise_iff_getElem.1 h2 i (i + 1) (by omega) hi (by omega)
theorem holdsM_filter {xs : List HoldT} (p : HoldT → Bool) (h : holdsM xs = true) : holdsM (xs.filter p) = true :=
  holdsM_of (fun x hx => holdsM_all h x (List.mem_filter.1 hx).1) ((holdsM_sorted h).filter _) (Nat.le_trans (List.length_filter_le _ _) (holdsM_len h))
theorem digU (d : Nat) (h : d ≤ 9) : strOf [(cvtW .u8 (addW .i64 48 (d : Int)), ())] = [UInt8.ofNat (48 + d)] := by
  rw [addW_in (by omega) (by omega)]
  have : cvtW .u8 (48 + (d : Int)) = 48 + (d : Int) := by unfold cvtW; rw [IntKind.wrap_u8]; omega
  rw [this]
  show [UInt8.ofNat (Int.toNat (48 + (d : Int)))] = _
  rw [show Int.toNat (48 + (d : Int)) = 48 + d by omega]
theorem fitS_le {s t : List UInt8} (h : s.length + t.length ≤ big) : fitS s t = true := Nat.ble_eq_true_of_le h
theorem dec_len {u : Nat} (h : u < 18446744073709551616) : (Lib.decDigits u).length ≤ 20 := by rw [Lib.decDigits_length]; exact Lib.nDigits_le20 u h
theorem numLoop : ∀ (f u : Nat) (s : List UInt8), u ≤ f → u ≤ 4611686018427387904 → (Lib.decDigits u).length + s.length ≤ 40 → ∃ (u' : Nat) (s' : List UInt8), l68_0 (u : Int) s = some (.inl ((u' : Int), s', ())) ∧ u' ≤ 9 ∧ UInt8.ofNat (48 + u') :: s' = Lib.decDigits u ++ s
  | 0, u, s, hf, hm, hl => by
    refine ⟨u, s, loopF_end _ ?_, by omega, ?_⟩
    · show r68_0 (u : Int) s = _
      unfold r68_0
      rw [ltI_no (by omega)]; rfl
    · rw [Lib.decDigits, dif_pos (by omega)]; rfl
  | f + 1, u, s, hf, hm, hl => by
    by_cases hu : u < 10
    · refine ⟨u, s, loopF_end _ ?_, by omega, ?_⟩
      · show r68_0 (u : Int) s = _
        unfold r68_0
        rw [ltI_no (by omega)]; rfl
      · rw [Lib.decDigits, dif_pos hu]; rfl
    · have hd : Lib.decDigits u = Lib.decDigits (u / 10) ++ [UInt8.ofNat (48 + u % 10)] := by rw [Lib.decDigits, dif_neg hu]
      have hbig : big = 140737488355328 := rfl
      have hl2 : (Lib.decDigits (u / 10)).length + (UInt8.ofNat (48 + u % 10) :: s).length ≤ 40 := by
        rw [hd, List.length_append] at hl
        simp only [List.length_cons, List.length_nil] at hl ⊢
        omega
      obtain ⟨u', s', h1, h2, h3⟩ := numLoop f (u / 10) (UInt8.ofNat (48 + u % 10) :: s) (by omega) (by omega) hl2
      refine ⟨u', s', loopF_step _ (x' := (((u / 10 : Nat) : Int), UInt8.ofNat (48 + u % 10) :: s, ())) ?_ h1, h2, by rw [h3, hd, List.append_assoc]; rfl⟩
      show r68_0 (u : Int) s = _
      unfold r68_0
      have hr : remI (u : Int) 10 = ((u % 10 : Nat) : Int) := by
        unfold remI
        rw [Int.tmod_eq_emod_of_nonneg (by omega)]
        omega
      have hq : quoW .i64 (u : Int) 10 = ((u / 10 : Nat) : Int) := by
        unfold quoW
        rw [Int.tdiv_eq_ediv_of_nonneg (by omega), IntKind.wrap_i64]
        omega
      rw [ltI_yes (by omega), hr, hq, digU _ (by omega)]
      dsimp only [cond_true]
      rw [fitS_le (by simp only [List.length_cons, List.length_nil]; omega)]
      rfl
def numM (n : Int) : List UInt8 := cond (moneyM n) (Lib.itoa n) []
theorem num_s (n : Int) : g68 n = some ((), ((numM n, ()), ())) := by
  have hbig : big = 140737488355328 := rfl
  unfold g68 numM
  rw [money_s]
  dsimp only [Option.bind_some]
  cases hm : moneyM n with
  | false => rfl
  | true =>
    have hb := inM_iff.1 hm
    obtain ⟨u, rfl⟩ : ∃ u : Nat, n = u := ⟨n.toNat, by omega⟩
    have hlen := dec_len (u := u) (by omega)
    obtain ⟨u', s', h1, h2, h3⟩ := numLoop u u [] (Nat.le_refl _) (by omega) (by simp only [List.length_nil]; omega)
    refine (congrArg (fun z => Option.bind z _) h1).trans ?_
    show cond (fitS (strOf [(cvtW .u8 (addW .i64 48 (u' : Int)), ())]) s') (some ((), ((apS (strOf [(cvtW .u8 (addW .i64 48 (u' : Int)), ())]) s', ()), ()))) none = _
    rw [digU _ h2]
    have hl := congrArg List.length h3
    simp only [List.length_cons, List.append_nil] at hl h3
    rw [fitS_le (by simp only [List.length_cons, List.length_nil]; omega)]
    rw [Lib.itoa_nonneg, ← h3]; rfl
theorem rep_eq (x : UInt8) : ∀ n : Nat, Lib.repeatL [x] n = List.replicate n x
  | 0 => rfl
  | n + 1 => by rw [Lib.repeatL, rep_eq x n]; rfl
def wideM (n w : Int) : List UInt8 := cond (moneyM n && inM w 1 18 && leI (lenI (Lib.itoa n)) w) (List.replicate (w - lenI (Lib.itoa n)).toNat 48 ++ Lib.itoa n) []
theorem wideLoop (w : Nat) (hw : w ≤ 18) : ∀ (d : Nat) (s : List UInt8), s.length + d = w → l24_0 (w : Int) s = some (.inl ((w : Int), List.replicate d 48 ++ s, ()))
  | 0, s, h => by
    refine loopF_end _ ?_
    show r24_0 (w : Int) s = _
    unfold r24_0
    rw [ltI_no (by unfold lenI; omega)]; rfl
  | d + 1, s, h => by
    have hbig : big = 140737488355328 := rfl
    have ih := wideLoop w hw d (48 :: s) (by simp only [List.length_cons]; omega)
    have e : List.replicate (d + 1) (48 : UInt8) ++ s = List.replicate d 48 ++ (48 :: s) := by rw [List.replicate_succ', List.append_assoc]; rfl
    rw [e]
    refine loopF_step _ (x' := ((w : Int), 48 :: s, ())) ?_ ih
    show r24_0 (w : Int) s = _
    unfold r24_0
    rw [ltI_yes (by unfold lenI; omega), fitS_le (by simp only [List.length_cons, List.length_nil]; omega)]; rfl
theorem itoa_pos {n : Int} (h : 0 ≤ n) : 1 ≤ (Lib.itoa n).length := by
  obtain ⟨u, rfl⟩ : ∃ u : Nat, n = u := ⟨n.toNat, by omega⟩
  rw [Lib.itoa_nonneg, Lib.decDigits_length]; exact Lib.nDigits_pos u
theorem wide_s (n w : Int) : g24 n w = some ((), ((wideM n w, ()), ())) := by
  unfold g24 wideM
  rw [num_s]
  dsimp only [Option.bind_some]
  unfold numM
  cases hm : moneyM n with
  | false => rfl
  | true =>
    have hb := inM_iff.1 hm
    have hp := itoa_pos hb.1
    have he : eqS (Lib.itoa n) [] = false := by
      cases hi : Lib.itoa n with
      | nil => rw [hi] at hp; simp at hp
      | cons x r => rfl
    rw [cond_true, he]
    dsimp only [cond_false, Bool.true_and]
    by_cases h1 : w < 1
    · rw [ltI_yes h1, show inM w 1 18 = false by unfold inM leI; rw [decide_eq_false (by omega)]; rfl]; rfl
    · by_cases h2 : 18 < w
      · rw [ltI_no h1, ltI_yes h2, show inM w 1 18 = false by unfold inM leI; rw [decide_eq_true (show (1 : Int) ≤ w by omega), decide_eq_false (by omega)]; rfl]; rfl
      · rw [ltI_no h1, ltI_no h2, inM_iff.2 ⟨by omega, by omega⟩]
        dsimp only [cond_false, Bool.true_and]
        by_cases h3 : w < lenI (Lib.itoa n)
        · rw [ltI_yes h3, show leI (lenI (Lib.itoa n)) w = false from decide_eq_false (by omega)]; rfl
        · rw [ltI_no h3, show leI (lenI (Lib.itoa n)) w = true from decide_eq_true (by omega)]
          obtain ⟨W, rfl⟩ : ∃ W : Nat, w = W := ⟨w.toNat, by omega⟩
          have h3 : (Lib.itoa n).length ≤ W := by unfold lenI at h3; omega
          have := wideLoop W (by omega) (W - (Lib.itoa n).length) (Lib.itoa n) (by omega)
          dsimp only [cond_false, cond_true]
          rw [this]
          dsimp only [Option.bind_some, Sum.elim_inl]
          rw [show ((W : Int) - lenI (Lib.itoa n)).toNat = W - (Lib.itoa n).length by unfold lenI; omega]
          rfl
theorem itoa_big {n : Int} (h : 4611686018427387904 < n) (h2 : n ≤ 9223372036854775807) : (Lib.itoa n).length = 19 := by
  obtain ⟨u, rfl⟩ : ∃ u : Nat, n = u := ⟨n.toNat, by omega⟩
  rw [Lib.itoa_nonneg, Lib.decDigits_length]
  exact Lib.nDigits_unique 18 u (by omega) (by omega)
theorem wide_i (n w : Int) (hn : -9223372036854775808 ≤ n ∧ n ≤ 9223372036854775807) : g30 n w = some ((), ((wideM n w, ()), ())) := by
  have hbig : big = 140737488355328 := rfl
  unfold g30 g75 itoaG wideM
  dsimp only [Option.bind_some]
  rw [in_i]
  by_cases h0 : n < 0
  · rw [ltI_yes h0, show moneyM n = false by unfold moneyM inM leI; rw [decide_eq_false (by omega)]; rfl]; rfl
  rw [ltI_no h0]
  dsimp only [cond_false, Option.bind_some]
  cases hw : inM w 1 18 with
  | false => rw [Bool.and_false]; rfl
  | true =>
    have hwb := inM_iff.1 hw
    rw [Bool.and_true]
    by_cases h3 : w < lenI (Lib.itoa n)
    · rw [ltI_yes h3, show leI (lenI (Lib.itoa n)) w = false from decide_eq_false (by omega), Bool.and_false]; rfl
    · have hm : moneyM n = true := by
        by_cases hh : 4611686018427387904 < n
        · have := itoa_big hh hn.2
          unfold lenI at h3; omega
        · exact inM_iff.2 ⟨by omega, by omega⟩
      have hlen : (Lib.itoa n).length ≤ 18 := by unfold lenI at h3; omega
      rw [ltI_no h3, hm, show leI (lenI (Lib.itoa n)) w = true from decide_eq_true (by omega)]
      have hs : subW .i64 w (lenI (Lib.itoa n)) = w - lenI (Lib.itoa n) := subW_in (by unfold lenI; omega) (by unfold lenI; omega)
      rw [hs]
      unfold g77 repeatG
      rw [show leI 0 (w - lenI (Lib.itoa n)) = true from decide_eq_true (by omega), show Nat.ble (([48] : List UInt8).length * (w - lenI (Lib.itoa n)).toNat) big = true from Nat.ble_eq_true_of_le (by simp only [List.length_cons, List.length_nil]; unfold lenI; omega)]
      show cond (fitS (Lib.repeatL [48] (w - lenI (Lib.itoa n)).toNat) (Lib.itoa n)) (some ((), ((apS (Lib.repeatL [48] (w - lenI (Lib.itoa n)).toNat) (Lib.itoa n), ()), ()))) none = _
      rw [rep_eq, fitS_le (by simp only [List.length_replicate]; unfold lenI; omega)]
      rfl
theorem wideM_len (n w : Int) : (wideM n w).length ≤ 18 := by
  unfold wideM
  cases hc : moneyM n && inM w 1 18 && leI (lenI (Lib.itoa n)) w with
  | false => simp
  | true =>
    simp only [Bool.and_eq_true] at hc
    have h1 := inM_iff.1 hc.1.2
    have h2 : lenI (Lib.itoa n) ≤ w := of_decide_eq_true hc.2
    simp only [cond_true, List.length_append, List.length_replicate]
    unfold lenI at h2 ⊢; omega
theorem sat_mono {a b x : Int} (h0 : 0 ≤ a) (h : a ≤ b) (hb : b ≤ 4611686018427387904) : satM a x ≤ satM b x := by
  have hx := clampM_bd x
  generalize hcx : clampM x = c at hx
  have e1 : clampM a = a := by unfold clampM; rw [if_neg (by omega), if_neg (by omega)]
  have e2 : clampM b = b := by unfold clampM; rw [if_neg (by omega), if_neg (by omega)]
  unfold satM; rw [e1, e2, hcx]; split <;> split <;> omega
theorem sat_ge {a x : Int} (h0 : 0 ≤ a) (hb : a ≤ 4611686018427387904) : a ≤ satM a x := by
  have := clampM_bd x
  have e1 : clampM a = a := by unfold clampM; rw [if_neg (by omega), if_neg (by omega)]
  unfold satM; rw [e1]; split <;> omega
theorem fold_filter (p : HoldT → Bool) : ∀ (xs : List HoldT) (a b : Int), 0 ≤ a → a ≤ b → b ≤ 4611686018427387904 → (xs.filter p).foldl (fun a h => satM a h.2.1) a ≤ xs.foldl (fun a h => satM a h.2.1) b
  | [], _, _, _, h, _ => h
  | x :: r, a, b, h0, h, hb => by
    have e1 := satM_bd b x.2.1
    have e2 := satM_bd a x.2.1
    have e3 := sat_mono (x := x.2.1) h0 h hb
    have e4 := sat_ge (x := x.2.1) (show 0 ≤ b by omega) hb
    rw [List.filter_cons]
    split
    · exact fold_filter p r _ _ e2.1 e3 e1.2
    · exact fold_filter p r a (satM b x.2.1) h0 (by omega) e1.2
theorem stored_bd : ∀ (xs : List HoldT) (a : Int), 0 ≤ a → a ≤ 4611686018427387904 → 0 ≤ xs.foldl (fun a h => satM a h.2.1) a ∧ xs.foldl (fun a h => satM a h.2.1) a ≤ 4611686018427387904
  | [], _, h0, h => ⟨h0, h⟩
  | x :: r, a, h0, h => stored_bd r _ (satM_bd a x.2.1).1 (satM_bd a x.2.1).2
theorem sat_mono2 {a x y : Int} (h0 : 0 ≤ x) (h : x ≤ y) (hb : y ≤ 4611686018427387904) : satM a x ≤ satM a y := by
  have := clampM_bd a
  have e1 : clampM x = x := by unfold clampM; rw [if_neg (by omega), if_neg (by omega)]
  have e2 : clampM y = y := by unfold clampM; rw [if_neg (by omega), if_neg (by omega)]
  unfold satM; rw [e1, e2]; split <;> split <;> omega
theorem swept_ok {a : AcctT} (now : Int) (h : acctM a = true) : acctM (sweptM a now) = true := by
  unfold sweptM
  rw [h]
  cases timeM now with
  | false => exact h
  | true =>
    simp only [cond_true]
    unfold acctM at h ⊢
    revert h
    cases acctIdM a.1 <;> first | exact fun h => h | skip
    cases inM a.2.1 0 9007199254740992 <;> first | exact fun h => h | skip
    cases inM a.2.2.2.1 0 1000 <;> first | exact fun h => h | skip
    cases inM a.2.2.2.2.1 0 9007199254740992 <;> first | exact fun h => h | skip
    cases moneyM a.2.2.1 <;> first | exact fun h => h | skip
    simp only [cond_true]
    cases hh : holdsM a.2.2.2.2.2.1 with
    | false => intro h; simp at h
    | true =>
      rw [holdsM_filter _ hh]
      simp only [cond_true]
      have hr : rgOf (a.1, a.2.1, a.2.2.1, a.2.2.2.1, a.2.2.2.2.1, a.2.2.2.2.2.1.filter (liveM now), a.2.2.2.2.2.2.1, a.2.2.2.2.2.2.2.1, a.2.2.2.2.2.2.2.2.1, a.2.2.2.2.2.2.2.2.2.1, a.2.2.2.2.2.2.2.2.2.2.1, ()) = rgOf a := rfl
      rw [hr]
      cases ringM (rgOf a) <;> first | exact fun h => h | skip
      cases slotsM a.2.2.2.2.2.2.2.2.2.2.1 <;> first | exact fun h => h | skip
      simp only [cond_true]
      intro h
      have h1 : satM a.2.2.1 (storedM a.2.2.2.2.2.1) ≤ a.2.1 := of_decide_eq_true h
      have h2 := fold_filter (liveM now) a.2.2.2.2.2.1 0 0 (Int.le_refl _) (Int.le_refl _) (by decide)
      have h3 := stored_bd a.2.2.2.2.2.1 0 (Int.le_refl _) (by decide)
      have h4 := stored_bd (a.2.2.2.2.2.1.filter (liveM now)) 0 (Int.le_refl _) (by decide)
      exact decide_eq_true (Int.le_trans (sat_mono2 h4.1 h2 h3.2) h1)
theorem room_swept {a : AcctT} (now : Int) (h : acctM a = true) : roomM (sweptM a now) now = roomM a now := by
  have h2 := swept_ok now h
  unfold roomM
  rw [h2, h]
  unfold sweptM
  rw [h]
  cases timeM now with
  | false => rfl
  | true =>
    simp only [cond_true]
    unfold liveSumM
    rw [List.filter_filter]
    simp only [Bool.and_self]
theorem posted_swept (a : AcctT) (now : Int) : (sweptM a now).2.2.1 = a.2.2.1 := by
  unfold sweptM; cases acctM a <;> first | rfl | skip
  cases timeM now <;> rfl
def askM (a : AcctT) (now : Int) : List UInt8 × Int := cond (acctM a) (cond (timeM now) ((wideM (roomM a now) 16 ++ [32]) ++ wideM a.2.2.1 16, 0) ([], 1)) ([], 1)
theorem ask_s (a : AcctT) (now : Int) (hb : AcctB a) : g6 a now = some ((), ((askM a now).1, ()), ((askM a now).2, ()), ()) := by
  have hbig : big = 140737488355328 := rfl
  have w1 := wideM_len (roomM a now) 16
  have w2 := wideM_len a.2.2.1 16
  unfold g6 askM
  rw [acct_s a hb, time_s, room_s a now hb]
  dsimp only [Option.bind_some]
  rw [wide_s, wide_s]
  cases acctM a <;> first | rfl | skip
  cases timeM now <;> first | rfl | skip
  dsimp only [Option.bind_some, Bool.not_true, cond_false, cond_true, apS]
  rw [fitS_le (by simp only [List.length_cons, List.length_nil]; omega), fitS_le (by simp only [List.length_append, List.length_cons, List.length_nil]; omega)]
  rfl
theorem roomM_in (a : AcctT) (now : Int) : -9223372036854775808 ≤ roomM a now ∧ roomM a now ≤ 9223372036854775807 := by
  unfold roomM
  have z : (-9223372036854775808 : Int) ≤ 0 ∧ (0 : Int) ≤ 9223372036854775807 := by decide
  cases acctM a <;> first | exact z | skip
  cases timeM now <;> first | exact z | skip
  have e : ∀ x : Int, -9223372036854775808 ≤ IntKind.i64.wrap x ∧ IntKind.i64.wrap x ≤ 9223372036854775807 := fun x => by rw [IntKind.wrap_i64]; omega
  exact e _
theorem posted_in {a : AcctT} (ha : acctM a = true) : -9223372036854775808 ≤ a.2.2.1 ∧ a.2.2.1 ≤ 9223372036854775807 := by
  unfold acctM at ha
  cases hm : moneyM a.2.2.1 with
  | true => have := inM_iff.1 hm; omega
  | false =>
    rw [hm] at ha
    revert ha
    cases acctIdM a.1 <;> cases inM a.2.1 0 9007199254740992 <;> cases inM a.2.2.2.1 0 1000 <;> cases inM a.2.2.2.2.1 0 9007199254740992 <;> simp
theorem begin_i (a : AcctT) (now : Int) (hb : AcctB a) : g29 a now = cond (acctM a) (cond (timeM now) (some ((), (sweptM a now, ((0, ()), ())))) (some ((), (([], 0, 0, 0, 0, [], 0, 0, [], [], [], ()), ((1, ()), ()))))) (some ((), (([], 0, 0, 0, 0, [], 0, 0, [], [], [], ()), ((1, ()), ())))) := by
  unfold g29
  rw [acct_i a hb, time_i, swept_i a now hb]
  dsimp only [Option.bind_some]
  cases acctM a <;> first | rfl | skip
  cases timeM now <;> rfl
theorem ask_i (a : AcctT) (now : Int) (hb : AcctB a) : g8 a now = some ((), ((askM a now).1, ()), ((askM a now).2, ()), ()) := by
  have hbig : big = 140737488355328 := rfl
  have w1 := wideM_len (roomM a now) 16
  have w2 := wideM_len a.2.2.1 16
  have hbeg := begin_i a now hb
  unfold g8 askM
  cases ha : acctM a with
  | false => rw [ha] at hbeg; rw [hbeg]; rfl
  | true =>
  cases ht : timeM now with
  | false => rw [ha, ht] at hbeg; rw [hbeg]; rfl
  | true =>
  rw [ha, ht] at hbeg
  rw [hbeg]
  have hr := room_i (sweptM a now) now (swept_b now hb)
  rw [room_swept now ha] at hr
  have h0 : eqI 0 0 = true := rfl
  have hw := wide_i _ 16 (roomM_in a now)
  have hw2 := wide_i _ 16 (posted_in ha)
  dsimp only [cond_true, Option.bind_some]
  rw [h0, hr, posted_swept]
  dsimp only [cond_true, cond_false, Option.bind_some, Bool.not_true]
  rw [hw, hw2]
  dsimp only [Option.bind_some, Bool.not_true, cond_false, cond_true, apS]
  rw [fitS_le (by simp only [List.length_cons, List.length_nil]; omega), fitS_le (by simp only [List.length_append, List.length_cons, List.length_nil]; omega)]
  rfl
end Go.Av

