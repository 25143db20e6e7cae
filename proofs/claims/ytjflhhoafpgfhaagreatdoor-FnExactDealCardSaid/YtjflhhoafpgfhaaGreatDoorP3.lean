/- Part of a proof that the law FnExactDeal answers true for every input: the printed functions of this program and their plain laws. No conditions beyond the statement. -/
import Derived.Test.YtjflhhoafpgfhaaGreatDoorP1
import Derived.Test.YtjflhhoafpgfhaaGreatDoorFw4
set_option maxRecDepth 100000
set_option maxHeartbeats 4000000
namespace Go.Av
abbrev HoldT := List UInt8 × Int × Int × Unit
abbrev SlotT := List UInt8 × List UInt8 × List (Int × Unit) × Unit
abbrev RingT := Int × Int × List (Int × Unit) × List (Int × Unit) × Unit
def inM (a lo hi : Int) : Bool := cond (leI lo a) (leI a hi) false
theorem inM_iff {a lo hi : Int} : inM a lo hi = true ↔ lo ≤ a ∧ a ≤ hi := by
 unfold inM leI
 by_cases h : lo ≤ a <;> simp [h]
theorem in_s (a lo hi : Int) : g61 a lo hi = some ((), ((inM a lo hi, ()), ())) := rfl
theorem in_i (a lo hi : Int) : g76 a lo hi = some ((), ((inM a lo hi, ()), ())) := rfl
def moneyM (a : Int) : Bool := inM a 0 4611686018427387904
theorem money_s (a : Int) : g62 a = some ((), ((moneyM a, ()), ())) := rfl
theorem money_i (a : Int) : g126 a = some ((), ((moneyM a, ()), ())) := rfl
def timeM (a : Int) : Bool := inM a 0 1000000000
theorem time_s (a : Int) : g23 a = some ((), ((timeM a, ()), ())) := rfl
theorem time_i (a : Int) : g45 a = some ((), ((timeM a, ()), ())) := rfl
def digM (x : UInt8) : Bool := cond (ltI (x.toNat : Int) 48) false (!(ltI 57 (x.toNat : Int)))
theorem digM_iff {x : UInt8} : digM x = true ↔ 48 ≤ x.toNat ∧ x.toNat ≤ 57 := by
 unfold digM ltI
 by_cases h : (x.toNat : Int) < 48
 · simp [h]; omega
 · by_cases h2 : (57 : Int) < x.toNat
   · simp [h, h2]; omega
   · simp [h, h2]; omega
def digitsM (s : List UInt8) : Bool := cond (s.all digM) (ltI 0 (lenI s)) false
theorem digits_s (s : List UInt8) (hs : s.length ≤ big) : g84 s = some ((), ((digitsM s, ()), ())) := by
 unfold g84
 have h := loop_list (step := fun (x : (List UInt8) × Int × Unit) => r84_0 x.1 x.2.1) s (fun i (_ : Unit) => (s, ((i : Nat) : Int), ())) (fun _ x _ => bif digM x then Sum.inl () else .inr (.inr (false, ()))) (fun _ => .inl (s, (s.length : Int), ())) (a0 := ()) (fun i x a hx => by
  have hlt := lt_of_get hx
  show r84_0 s (i : Int) = _
  unfold r84_0 digM
  rw [ltI_in hx, inB_in hx, bytI_in hx, addW1 (by omega)]
  dsimp only [cond_true]
  cases ltI (x.toNat : Int) 48 <;> cases ltI 57 (x.toNat : Int) <;> rfl) (fun a => by
  show r84_0 s (s.length : Int) = _
  unfold r84_0
  rw [ltI_out rfl]; rfl)
 rw [goL_all] at h
 have h' : l84_0 s 0 = _ := h
 rw [h']
 unfold digitsM
 cases s.all digM <;> rfl
theorem digits_i (s : List UInt8) (hs : s.length ≤ big) : g151 s = some ((), ((digitsM s, ()), ())) := by
 unfold g151
 have h := loop_list (step := fun (x : (List UInt8) × Int × Int × Unit) => r151_0 x.1 x.2.1 x.2.2.1) s (fun i (_ : Unit) => (s, lenI s, ((i : Nat) : Int), ())) (fun _ x _ => bif digM x then Sum.inl () else .inr (.inr (false, ()))) (fun _ => .inl (s, lenI s, (s.length : Int), ())) (a0 := ()) (fun i x a hx => by
  have hlt := lt_of_get hx
  show r151_0 s (lenI s) (i : Int) = _
  unfold r151_0 digM
  rw [ltI_in hx, inB_in hx, bytI_in hx, addW1 (by omega)]
  dsimp only [cond_true]
  cases ltI (x.toNat : Int) 48 <;> cases ltI 57 (x.toNat : Int) <;> rfl) (fun a => by
  show r151_0 s (lenI s) (s.length : Int) = _
  unfold r151_0
  rw [ltI_out rfl]; rfl)
 rw [goL_all] at h
 have h' : l151_0 s (lenI s) 0 = _ := h
 rw [h']
 unfold digitsM
 cases s with
 | nil => rfl
 | cons x r =>
   have e1 : ltI 0 (lenI (x :: r)) = true := ltI_yes (by unfold lenI; simp only [List.length_cons]; omega)
   have e2 : eqS (x :: r) [] = false := rfl
   cases (x :: r).all digM
   · rfl
   · dsimp only [cond_true, cond_false, Option.bind_some, Sum.elim_inl]
     rw [e1, e2]; rfl
def holdChM (x : UInt8) : Bool := cond (ltI (x.toNat : Int) 48) (cond (ltI (x.toNat : Int) 97) false (!(ltI 122 (x.toNat : Int)))) (cond (ltI 57 (x.toNat : Int)) (cond (ltI (x.toNat : Int) 97) false (!(ltI 122 (x.toNat : Int)))) true)
def holdIdM (s : List UInt8) : Bool := cond (s.all holdChM) (inM (lenI s) 1 6) false
theorem holdId_s (s : List UInt8) (hs : s.length ≤ big) : g86 s = some ((), ((holdIdM s, ()), ())) := by
 unfold g86
 have h := loop_list (step := fun (x : (List UInt8) × Int × Unit) => r86_0 x.1 x.2.1) s (fun i (_ : Unit) => (s, ((i : Nat) : Int), ())) (fun _ x _ => bif holdChM x then Sum.inl () else .inr (.inr (false, ()))) (fun _ => .inl (s, (s.length : Int), ())) (a0 := ()) (fun i x a hx => by
  have hlt := lt_of_get hx
  show r86_0 s (i : Int) = _
  unfold r86_0 holdChM
  rw [ltI_in hx, inB_in hx, bytI_in hx, addW1 (by omega)]
  dsimp only [cond_true]
  cases ltI (x.toNat : Int) 48 <;> cases ltI 57 (x.toNat : Int) <;> cases ltI (x.toNat : Int) 97 <;> cases ltI 122 (x.toNat : Int) <;> rfl) (fun a => by
  show r86_0 s (s.length : Int) = _
  unfold r86_0
  rw [ltI_out rfl]; rfl)
 rw [goL_all] at h
 have h' : l86_0 s 0 = _ := h
 rw [h']
 unfold holdIdM
 cases s.all holdChM <;> rfl
theorem holdId_i (s : List UInt8) (hs : s.length ≤ big) : g100 s = some ((), ((holdIdM s, ()), ())) := by
 unfold g100
 have h := loop_list (step := fun (x : (List UInt8) × Int × Int × Unit) => r100_0 x.1 x.2.1 x.2.2.1) s (fun i (_ : Unit) => (s, lenI s, ((i : Nat) : Int), ())) (fun _ x _ => bif holdChM x then Sum.inl () else .inr (.inr (false, ()))) (fun _ => .inl (s, lenI s, (s.length : Int), ())) (a0 := ()) (fun i x a hx => by
  have hlt := lt_of_get hx
  show r100_0 s (lenI s) (i : Int) = _
  unfold r100_0 holdChM
  rw [ltI_in hx, inB_in hx, bytI_in hx, addW1 (by omega)]
  dsimp only [cond_true]
  cases ltI (x.toNat : Int) 48 <;> cases ltI 57 (x.toNat : Int) <;> cases ltI (x.toNat : Int) 97 <;> cases ltI 122 (x.toNat : Int) <;> rfl) (fun a => by
  show r100_0 s (lenI s) (s.length : Int) = _
  unfold r100_0
  rw [ltI_out rfl]; rfl)
 rw [goL_all] at h
 have h' : l100_0 s (lenI s) 0 = _ := h
 rw [h']
 unfold holdIdM
 cases s.all holdChM <;> rfl
def holdM (h : HoldT) : Bool := cond (holdIdM h.1) (cond (inM h.2.1 1 9007199254740992) (timeM h.2.2.1) false) false
theorem hold_s (h : HoldT) (hs : h.1.length ≤ big) : g120 h = some ((), ((holdM h, ()), ())) := by
 unfold g120 holdM
 simp only [holdId_s _ hs, in_s, time_s, Option.bind_some]
 cases holdIdM h.1 <;> cases inM h.2.1 1 9007199254740992 <;> rfl
theorem hold_i (h : HoldT) (hs : h.1.length ≤ big) : g168 h = some ((), ((holdM h, ()), ())) := by
 unfold g168 holdM
 simp only [holdId_i _ hs, in_i, time_i, Option.bind_some]
 cases holdIdM h.1 <;> cases inM h.2.1 1 9007199254740992 <;> rfl
def holdStep (xs : List HoldT) (i : Nat) (x : HoldT) : Bool := cond (holdM x) (cond (ltI 0 (i : Int)) (ltS (gt ([], 0, 0, ()) xs ((i : Int) - 1)).1 x.1) true) false
def holdsM (xs : List HoldT) : Bool := cond (allI (holdStep xs) 0 xs) (leI (lenI xs) 4) false
theorem bytesLess_tri : ∀ (s t : List UInt8), (Op.bytesLess s t || eqS s t) = !(Op.bytesLess t s)
 | [], [] => rfl
 | [], _ :: _ => rfl
 | _ :: _, [] => rfl
 | a :: s, b :: t => by
   have ih := bytesLess_tri s t
   have e : eqS (a :: s) (b :: t) = (a == b && eqS s t) := rfl
   show ((decide (a < b) || (a == b && Op.bytesLess s t)) || eqS (a :: s) (b :: t)) = !(decide (b < a) || (b == a && Op.bytesLess t s))
   rw [e]
   rcases Nat.lt_trichotomy a.toNat b.toNat with h | h | h
   · have h1 : a < b := UInt8.lt_iff_toNat_lt.2 h
     have h2 : ¬ b < a := fun hh => by have := UInt8.lt_iff_toNat_lt.1 hh; omega
     have h3 : (b == a) = false := by rw [beq_eq_false_iff_ne]; intro hh; subst hh; omega
     simp [h1, h2, h3]
   · have h1 : a = b := UInt8.toNat_inj.1 h
     subst h1
     have h2 : ¬ a < a := fun hh => by have := UInt8.lt_iff_toNat_lt.1 hh; omega
     simpa [h2] using ih
   · have h1 : ¬ a < b := fun hh => by have := UInt8.lt_iff_toNat_lt.1 hh; omega
     have h2 : b < a := UInt8.lt_iff_toNat_lt.2 h
     have h3 : (a == b) = false := by rw [beq_eq_false_iff_ne]; intro hh; subst hh; omega
     simp [h1, h2, h3]
theorem leS_not (s t : List UInt8) : leS s t = !(ltS t s) := bytesLess_tri s t
def HoldsB (xs : List HoldT) : Prop := xs.length ≤ big ∧ ∀ y ∈ xs, y.1.length ≤ big
theorem prev_get {α : Type} {xs : List α} {i : Nat} {x : α} (hx : xs[i]? = some x) (h : 0 < i) : inB ((i : Int) - 1) xs = true := by
 have := lt_of_get hx
 have e : (i : Int) - 1 = ((i - 1 : Nat) : Int) := by omega
 rw [e]; exact inB_lt (by omega)
theorem holds_s (xs : List HoldT) (hb : HoldsB xs) : g63 xs = some ((), ((holdsM xs, ()), ())) := by
 have hbig : big = 140737488355328 := rfl
 unfold g63
 have h := loop_list (step := fun (x : (List HoldT) × (List HoldT) × Int × Int × Unit) => r63_0 x.1 x.2.1 x.2.2.1 x.2.2.2.1) xs (fun i (_ : Unit) => (xs, xs, lenI xs, ((i : Nat) : Int), ())) (fun i x _ => bif holdStep xs i x then Sum.inl () else .inr (.inr (false, ()))) (fun _ => .inl (xs, xs, lenI xs, (xs.length : Int), ())) (a0 := ()) (fun i x a hx => by
  have hlt := lt_of_get hx
  have hl := hb.1
  show r63_0 xs xs (lenI xs) (i : Int) = _
  unfold r63_0 holdStep
  rw [ltI_in hx, inB_in hx, gt_in _ hx]
  dsimp only [cond_true]
  rw [hold_s x (hb.2 x (List.mem_of_getElem? hx)), addW1 (by omega)]
  dsimp only [Option.bind_some]
  cases holdM x with
  | false => rfl
  | true =>
    by_cases h0 : 0 < i
    · rw [ltI_yes (show (0 : Int) < i by omega), subW_in (by omega) (by omega), prev_get hx h0]
      dsimp only [cond_true, cond_false, Bool.not_true]
      have e : gt d108 xs ((i : Int) - 1) = gt ([], 0, 0, ()) xs ((i : Int) - 1) := rfl
      rw [e]
      cases ltS (gt ([], 0, 0, ()) xs ((i : Int) - 1)).1 x.1 <;> rfl
    · rw [ltI_no (show ¬ (0 : Int) < i by omega)]; rfl) (fun a => by
  show r63_0 xs xs (lenI xs) (xs.length : Int) = _
  unfold r63_0
  rw [ltI_out rfl]; rfl)
 rw [goL_allI] at h
 have h' : l63_0 xs xs (lenI xs) 0 = _ := h
 rw [h']
 unfold holdsM
 cases allI (holdStep xs) 0 xs <;> rfl
theorem holds_i (xs : List HoldT) (hb : HoldsB xs) : g127 xs = some ((), ((holdsM xs, ()), ())) := by
 have hbig : big = 140737488355328 := rfl
 unfold g127
 have h := loop_list (step := fun (x : (List HoldT) × (List HoldT) × Int × Int × Unit) => r127_0 x.1 x.2.1 x.2.2.1 x.2.2.2.1) xs (fun i (_ : Unit) => (xs, xs, lenI xs, ((i : Nat) : Int), ())) (fun i x _ => bif holdStep xs i x then Sum.inl () else .inr (.inr (false, ()))) (fun _ => .inl (xs, xs, lenI xs, (xs.length : Int), ())) (a0 := ()) (fun i x a hx => by
  have hlt := lt_of_get hx
  have hl := hb.1
  show r127_0 xs xs (lenI xs) (i : Int) = _
  unfold r127_0 holdStep
  rw [ltI_in hx, inB_in hx, gt_in _ hx]
  dsimp only [cond_true]
  rw [hold_i x (hb.2 x (List.mem_of_getElem? hx)), addW1 (by omega)]
  dsimp only [Option.bind_some]
  cases holdM x with
  | false => rfl
  | true =>
    by_cases h0 : 0 < i
    · rw [ltI_yes (show (0 : Int) < i by omega), subW_in (by omega) (by omega), prev_get hx h0]
      dsimp only [cond_true, cond_false, Bool.not_true]
      rw [leS_not]
      have e : gt d108 xs ((i : Int) - 1) = gt ([], 0, 0, ()) xs ((i : Int) - 1) := rfl
      rw [e]
      cases ltS (gt ([], 0, 0, ()) xs ((i : Int) - 1)).1 x.1 <;> rfl
    · rw [ltI_no (show ¬ (0 : Int) < i by omega)]; rfl) (fun a => by
  show r127_0 xs xs (lenI xs) (xs.length : Int) = _
  unfold r127_0
  rw [ltI_out rfl]; rfl)
 rw [goL_allI] at h
 have h' : l127_0 xs xs (lenI xs) 0 = _ := h
 rw [h']
 unfold holdsM
 cases allI (holdStep xs) 0 xs <;> rfl
def lunE (dbl : Bool) (x : UInt8) : Int := cond dbl (cond (ltI 9 (2 * ((x.toNat : Int) - 48))) (2 * ((x.toNat : Int) - 48) - 9) (2 * ((x.toNat : Int) - 48))) ((x.toNat : Int) - 48)
theorem lunE_bd (b : Bool) {x : UInt8} (h : digM x = true) : 0 ≤ lunE b x ∧ lunE b x ≤ 9 := by
 obtain ⟨h1, h2⟩ := digM_iff.1 h
 unfold lunE ltI
 cases b
 · dsimp only [cond_false]; omega
 · dsimp only [cond_true]
   by_cases h9 : 9 < 2 * ((x.toNat : Int) - 48)
   · rw [decide_eq_true h9]; dsimp only [cond_true]; omega
   · rw [decide_eq_false h9]; dsimp only [cond_false]; omega
def lunS (xs : List UInt8) (a : Int × Bool) : Int × Bool := xs.foldl (fun a x => (a.1 + lunE a.2 x, !a.2)) a
def lunT (xs : List UInt8) (a : Int × Bool) : Int × Bool := xs.foldl (fun a x => ((a.1 + lunE a.2 x) % 10, !a.2)) a
theorem lunT_eq : ∀ (xs : List UInt8) (a : Int) (b : Bool), lunT xs (a % 10, b) = ((lunS xs (a, b)).1 % 10, (lunS xs (a, b)).2)
 | [], a, b => rfl
 | x :: r, a, b => by
   have e : (a % 10 + lunE b x) % 10 = (a + lunE b x) % 10 := by omega
   show lunT r ((a % 10 + lunE b x) % 10, !b) = ((lunS r (a + lunE b x, !b)).1 % 10, (lunS r (a + lunE b x, !b)).2)
   rw [e]
   exact lunT_eq r _ _
def luhnM (s : List UInt8) : Int := cond (digitsM s) ((10 - (lunS s.reverse (0, true)).1 % 10) % 10) (-1)
theorem digitsM_all {s : List UInt8} (h : digitsM s = true) : ∀ x ∈ s, digM x = true := by
 unfold digitsM at h
 cases hs : s.all digM with
 | true => exact fun x hx => List.all_eq_true.1 hs x hx
 | false => rw [hs] at h; simp at h
theorem rev_get {s : List UInt8} {i : Nat} {x : UInt8} (h : s.reverse[i]? = some x) : i < s.length ∧ s[s.length - 1 - i]? = some x := by
 have hl : i < s.length := by simpa using lt_of_get h
 refine ⟨hl, ?_⟩
 rwa [List.getElem?_reverse hl] at h
theorem dig_s {x : UInt8} (h : digM x = true) : subW .i64 (cvtW .i64 (x.toNat : Int)) 48 = (x.toNat : Int) - 48 := by
 obtain ⟨h1, h2⟩ := digM_iff.1 h
 have e : cvtW .i64 (x.toNat : Int) = (x.toNat : Int) := IntWalk.i64_in _ (by omega)
 rw [e]; exact subW_in (by omega) (by omega)
theorem dig_i {x : UInt8} (h : digM x = true) : cvtW .i64 (subW .u8 (x.toNat : Int) 48) = (x.toNat : Int) - 48 := by
 obtain ⟨h1, h2⟩ := digM_iff.1 h
 have e : subW .u8 (x.toNat : Int) 48 = (x.toNat : Int) - 48 := IntWalk.u8_in _ (by omega)
 rw [e]; exact IntWalk.i64_in _ (by omega)
theorem mulW_in {a b : Int} (h1 : -4611686018427387904 ≤ a * b) (h2 : a * b ≤ 4611686018427387904) : mulW .i64 a b = a * b := by
 unfold mulW; rw [IntWalk.i64_in _ (by omega)]
theorem remI_10 {a : Int} (h : 0 ≤ a) : remI a 10 = a % 10 := by unfold remI; exact Int.tmod_eq_emod_of_nonneg h
theorem luhn_s (s : List UInt8) (hs : s.length ≤ big) : g166 s = some ((), ((luhnM s, ()), ())) := by
 have hbig : big = 140737488355328 := rfl
 unfold g166 luhnM
 rw [digits_s s hs]
 dsimp only [Option.bind_some]
 cases hd : digitsM s with
 | false => rfl
 | true =>
 have hall := digitsM_all hd
 have h := loop_inv (step := fun (x : (List UInt8) × Int × Bool × Int × Unit) => r166_0 x.1 x.2.1 x.2.2.1 x.2.2.2.1) s.reverse (fun i (a : Int × Bool) => (s, a.1, a.2, (s.length : Int) - 1 - ((i : Nat) : Int), ())) (fun _ x a => Sum.inl ((a.1 + lunE a.2 x) % 10, !a.2)) (fun a => .inl (s, a.1, a.2, (-1 : Int), ()))
  (fun _ a => 0 ≤ a.1 ∧ a.1 < 10) (a0 := (0, true)) ⟨by decide, by decide⟩ (fun i x a hx ha => by
    obtain ⟨hlt, hx'⟩ := rev_get hx
    have hdx := hall x (List.mem_of_getElem? hx')
    have hbd := lunE_bd a.2 hdx
    have hdd := digM_iff.1 hdx
    have e : (s.length : Int) - 1 - (i : Int) = ((s.length - 1 - i : Nat) : Int) := by omega
    have e' : (s.length : Int) - 1 - ((i + 1 : Nat) : Int) = ((s.length - 1 - i : Nat) : Int) - 1 := by omega
    obtain ⟨a1, a2⟩ := a
    show r166_0 s a1 a2 ((s.length : Int) - 1 - (i : Int)) = some (.inl (s, (a1 + lunE a2 x) % 10, !a2, (s.length : Int) - 1 - ((i + 1 : Nat) : Int), ()))
    rw [e, e']
    have hle : leI 0 ((s.length - 1 - i : Nat) : Int) = true := decide_eq_true (by omega)
    have ha : 0 ≤ a1 ∧ a1 < 10 := ha
    unfold r166_0
    rw [hle, inB_in hx', bytI_in hx', dig_s hdx, subW_in (a := ((s.length - 1 - i : Nat) : Int)) (b := 1) (by omega) (by omega)]
    have hb : (0 ≤ lunE a2 x ∧ lunE a2 x ≤ 9) := hbd
    cases a2 with
    | false =>
      have hv : lunE false x = (x.toNat : Int) - 48 := rfl
      dsimp only [cond_true, cond_false, Bool.not_false]
      rw [addW_in (by omega) (by omega), remI_10 (by omega), hv]
    | true =>
      dsimp only [cond_true, cond_false, Bool.not_false, Bool.not_true]
      rw [mulW_in (by omega) (by omega)]
      by_cases h9 : 9 < 2 * ((x.toNat : Int) - 48)
      · have hv : lunE true x = 2 * ((x.toNat : Int) - 48) - 9 := by unfold lunE; rw [ltI_yes h9]; rfl
        rw [ltI_yes h9]; dsimp only [cond_true, cond_false, Bool.not_false]; rw [subW_in (by omega) (by omega), addW_in (by omega) (by omega), remI_10 (by omega), hv]
      · have hv : lunE true x = 2 * ((x.toNat : Int) - 48) := by unfold lunE; rw [ltI_no h9]; rfl
        rw [ltI_no h9]; dsimp only [cond_true, cond_false, Bool.not_false]; rw [addW_in (by omega) (by omega), remI_10 (by omega), hv]) (fun i x a a' hx ha hf => by
    simp only [Sum.inl.injEq] at hf
    subst hf
    show 0 ≤ (a.1 + lunE a.2 x) % 10 ∧ (a.1 + lunE a.2 x) % 10 < 10
    omega) (fun a ha => by
    have e : (s.length : Int) - 1 - ((s.reverse.length : Nat) : Int) = -1 := by simp; omega
    show r166_0 s a.1 a.2 ((s.length : Int) - 1 - ((s.reverse.length : Nat) : Int)) = _
    rw [e]
    rfl)
 rw [goL_fold (fun x a => ((a.1 + lunE a.2 x) % 10, !a.2))] at h
 have h' : l166_0 s 0 true ((s.length : Int) - 1 - ((0 : Nat) : Int)) = some (.inl (s, (lunT s.reverse (0, true)).1, (lunT s.reverse (0, true)).2, (-1 : Int), ())) := h
 have e0 : (s.length : Int) - 1 - ((0 : Nat) : Int) = subW .i64 (lenI s) 1 := by rw [subW_in (by unfold lenI; omega) (by unfold lenI; omega)]; unfold lenI; omega
 have eT : (lunT s.reverse (0, true)).1 = (lunS s.reverse (0, true)).1 % 10 := by
  have := lunT_eq s.reverse 0 true
  rw [show (0 : Int) % 10 = 0 from rfl] at this
  rw [this]
 rw [e0] at h'
 rw [h', eT]
 dsimp only [Option.bind_some, Sum.elim_inl, cond_true, cond_false, Bool.not_true]
 rw [subW_in (by omega) (by omega), remI_10 (by omega)]; rfl
theorem luhn_i (s : List UInt8) (hs : s.length ≤ big) : g183 s = some ((), ((luhnM s, ()), ())) := by
 have hbig : big = 140737488355328 := rfl
 unfold g183 luhnM
 rw [digits_i s hs]
 dsimp only [Option.bind_some]
 cases hd : digitsM s with
 | false => rfl
 | true =>
 have hall := digitsM_all hd
 have h := loop_inv (step := fun (x : (List UInt8) × Int × Bool × Int × Unit) => r183_0 x.1 x.2.1 x.2.2.1 x.2.2.2.1) s.reverse (fun i (a : Int × Bool) => (s, a.1, a.2, (s.length : Int) - 1 - ((i : Nat) : Int), ())) (fun _ x a => Sum.inl (a.1 + lunE a.2 x, !a.2)) (fun a => .inl (s, a.1, a.2, (-1 : Int), ()))
  (fun i a => 0 ≤ a.1 ∧ a.1 ≤ 9 * i) (a0 := (0, true)) ⟨by decide, by decide⟩ (fun i x a hx ha => by
    obtain ⟨hlt, hx'⟩ := rev_get hx
    have hdx := hall x (List.mem_of_getElem? hx')
    have hbd := lunE_bd a.2 hdx
    have hdd := digM_iff.1 hdx
    have e : (s.length : Int) - 1 - (i : Int) = ((s.length - 1 - i : Nat) : Int) := by omega
    have e' : (s.length : Int) - 1 - ((i + 1 : Nat) : Int) = ((s.length - 1 - i : Nat) : Int) - 1 := by omega
    obtain ⟨a1, a2⟩ := a
    show r183_0 s a1 a2 ((s.length : Int) - 1 - (i : Int)) = some (.inl (s, a1 + lunE a2 x, !a2, (s.length : Int) - 1 - ((i + 1 : Nat) : Int), ()))
    rw [e, e']
    have hle : leI 0 ((s.length - 1 - i : Nat) : Int) = true := decide_eq_true (by omega)
    have ha : 0 ≤ a1 ∧ a1 ≤ 9 * i := ha
    unfold r183_0
    rw [hle, inB_in hx', bytI_in hx', dig_i hdx, subW_in (a := ((s.length - 1 - i : Nat) : Int)) (b := 1) (by omega) (by omega)]
    have hb : (0 ≤ lunE a2 x ∧ lunE a2 x ≤ 9) := hbd
    cases a2 with
    | false =>
      have hv : lunE false x = (x.toNat : Int) - 48 := rfl
      dsimp only [cond_true, cond_false, Bool.not_false]
      rw [addW_in (by omega) (by omega), hv]
    | true =>
      dsimp only [cond_true, cond_false, Bool.not_false, Bool.not_true]
      have em : mulW .i64 ((x.toNat : Int) - 48) 2 = 2 * ((x.toNat : Int) - 48) := by rw [mulW_in (by omega) (by omega)]; omega
      rw [em]
      by_cases h9 : 9 < 2 * ((x.toNat : Int) - 48)
      · have hv : lunE true x = 2 * ((x.toNat : Int) - 48) - 9 := by unfold lunE; rw [ltI_yes h9]; rfl
        rw [ltI_yes h9]; dsimp only [cond_true, cond_false, Bool.not_false]; rw [subW_in (by omega) (by omega), addW_in (by omega) (by omega), hv]
      · have hv : lunE true x = 2 * ((x.toNat : Int) - 48) := by unfold lunE; rw [ltI_no h9]; rfl
        rw [ltI_no h9]; dsimp only [cond_true, cond_false, Bool.not_false]; rw [addW_in (by omega) (by omega), hv]) (fun i x a a' hx ha hf => by
    have hbd := lunE_bd a.2 (hall x (List.mem_of_getElem? (rev_get hx).2))
    simp only [Sum.inl.injEq] at hf
    subst hf
    show 0 ≤ a.1 + lunE a.2 x ∧ a.1 + lunE a.2 x ≤ 9 * ((i + 1 : Nat) : Int)
    omega) (fun a ha => by
    have e : (s.length : Int) - 1 - ((s.reverse.length : Nat) : Int) = -1 := by simp; omega
    show r183_0 s a.1 a.2 ((s.length : Int) - 1 - ((s.reverse.length : Nat) : Int)) = _
    rw [e]
    rfl)
 rw [goL_fold (fun x a => (a.1 + lunE a.2 x, !a.2))] at h
 have h' : l183_0 s 0 true ((s.length : Int) - 1 - ((0 : Nat) : Int)) = some (.inl (s, (lunS s.reverse (0, true)).1, (lunS s.reverse (0, true)).2, (-1 : Int), ())) := h
 have e0 : (s.length : Int) - 1 - ((0 : Nat) : Int) = subW .i64 (lenI s) 1 := by rw [subW_in (by unfold lenI; omega) (by unfold lenI; omega)]; unfold lenI; omega
 have hS : ∀ (xs : List UInt8) (a : Int × Bool), (∀ x ∈ xs, digM x = true) → 0 ≤ a.1 → 0 ≤ (lunS xs a).1 := by
  intro xs
  induction xs with
  | nil => intro a _ h; exact h
  | cons x r ih =>
    intro a hx h
    have := lunE_bd a.2 (hx x (List.mem_cons_self ..))
    exact ih (a.1 + lunE a.2 x, !a.2) (fun y hy => hx y (List.mem_cons_of_mem _ hy)) (by show 0 ≤ a.1 + lunE a.2 x; omega)
 have h0 := hS s.reverse (0, true) (fun x hx => hall x (List.mem_reverse.1 hx)) (by decide)
 rw [e0] at h'
 rw [h']
 dsimp only [Option.bind_some, Sum.elim_inl, cond_true, cond_false, Bool.not_true]
 rw [remI_10 h0, subW_in (by omega) (by omega), remI_10 (by omega)]; rfl
def luhnOkM (s : List UInt8) : Bool := cond (digitsM s) (cond (leI 2 (lenI s)) (eqI (luhnM (sub s 0 (lenI s - 1))) (bytI s (lenI s - 1) - 48)) false) false
theorem lastD {s : List UInt8} (hd : digitsM s = true) (h : 2 ≤ s.length) : ∃ x, digM x = true ∧ inB (lenI s - 1) s = true ∧ bytI s (lenI s - 1) = (x.toNat : Int) ∧ cutB 0 (lenI s - 1) s = true ∧ (sub s 0 (lenI s - 1)).length ≤ s.length := by
 have e : lenI s - 1 = ((s.length - 1 : Nat) : Int) := by unfold lenI; omega
 obtain ⟨x, hx⟩ : ∃ x, s[s.length - 1]? = some x := ⟨s[s.length - 1]'(by omega), by simp⟩
 refine ⟨x, digitsM_all hd x (List.mem_of_getElem? hx), ?_, ?_, ?_, ?_⟩
 · rw [e]; exact inB_in hx
 · rw [e]; exact bytI_in hx
 · rw [e]; unfold cutB cutOk leI
   rw [decide_eq_true (by decide), decide_eq_true (by omega), decide_eq_true (by omega)]; rfl
 · rw [e]; unfold sub; simp
theorem luhnOk_s (s : List UInt8) (hs : s.length ≤ big) : g119 s = some ((), ((luhnOkM s, ()), ())) := by
 have hbig : big = 140737488355328 := rfl
 unfold g119 luhnOkM
 rw [digits_s s hs]
 dsimp only [Option.bind_some]
 cases hd : digitsM s with
 | false => rfl
 | true =>
   by_cases h2 : 2 ≤ s.length
   · obtain ⟨x, h3, h4, h5, h6, h7⟩ := lastD hd h2
     have e1 : leI 2 (lenI s) = true := decide_eq_true (by unfold lenI; omega)
     have e2 : subW .i64 (lenI s) 1 = lenI s - 1 := subW_in (by unfold lenI; omega) (by unfold lenI; omega)
     rw [ltI_no (show ¬ lenI s < 2 by unfold lenI; omega), e1, e2]
     dsimp only [cond_true, cond_false, Bool.not_true]
     rw [h6, h4, luhn_s _ (Nat.le_trans h7 hs), h5, dig_s h3]; rfl
   · have e1 : leI 2 (lenI s) = false := decide_eq_false (by unfold lenI; omega)
     rw [ltI_yes (show lenI s < 2 by unfold lenI; omega), e1]; rfl
theorem luhnOk_i (s : List UInt8) (hs : s.length ≤ big) : g150 s = some ((), ((luhnOkM s, ()), ())) := by
 have hbig : big = 140737488355328 := rfl
 unfold g150 luhnOkM
 have e2 : subW .i64 (lenI s) 1 = lenI s - 1 := subW_in (by unfold lenI; omega) (by unfold lenI; omega)
 dsimp only
 rw [digits_i s hs, e2]
 dsimp only [Option.bind_some]
 by_cases h2 : 2 ≤ s.length
 · have e1 : leI 2 (lenI s) = true := decide_eq_true (by unfold lenI; omega)
   have e3 : leI 1 (lenI s - 1) = true := decide_eq_true (by unfold lenI; omega)
   rw [e1, e3]
   cases hd : digitsM s with
   | false => rfl
   | true =>
     obtain ⟨x, h3, h4, h5, h6, h7⟩ := lastD hd h2
     dsimp only [cond_true, cond_false, Bool.not_true]
     rw [h6, h4, luhn_i _ (Nat.le_trans h7 hs), h5, dig_i h3]; rfl
 · have e1 : leI 2 (lenI s) = false := decide_eq_false (by unfold lenI; omega)
   have e3 : leI 1 (lenI s - 1) = false := decide_eq_false (by unfold lenI; omega)
   rw [e1, e3]
   cases digitsM s <;> rfl
def acctIdM (s : List UInt8) : Bool := cond (leI (lenI s) 19) (luhnOkM s) false
theorem acctId_s (s : List UInt8) (hs : s.length ≤ big) : g60 s = some ((), ((acctIdM s, ()), ())) := by
 unfold g60 acctIdM
 rw [luhnOk_s s hs]
 cases leI (lenI s) 19 <;> rfl
theorem acctId_i (s : List UInt8) (hs : s.length ≤ big) : g97 s = some ((), ((acctIdM s, ()), ())) := by
 unfold g97 acctIdM
 rw [luhnOk_i s hs]
 cases leI (lenI s) 19 <;> rfl
def clampM (a : Int) : Int := if a < 0 then 0 else if 4611686018427387904 < a then 4611686018427387904 else a
theorem clampM_bd (a : Int) : 0 ≤ clampM a ∧ clampM a ≤ 4611686018427387904 := by
 unfold clampM
 split
 · omega
 · split <;> omega
def satM (a b : Int) : Int := if 4611686018427387904 - clampM b < clampM a then 4611686018427387904 else clampM a + clampM b
theorem satM_bd (a b : Int) : 0 ≤ satM a b ∧ satM a b ≤ 4611686018427387904 := by
 have := clampM_bd a; have := clampM_bd b
 unfold satM; split <;> omega
theorem clamp_s (a : Int) : g123 a 0 4611686018427387904 = some ((), ((clampM a, ()), ())) := by
 unfold g123 clampM
 by_cases h : a < 0
 · rw [ltI_yes h, if_pos h]; rfl
 · by_cases h2 : 4611686018427387904 < a
   · rw [ltI_no h, if_neg h, ltI_yes h2, if_pos h2]; rfl
   · rw [ltI_no h, if_neg h, ltI_no h2, if_neg h2]; rfl
theorem moneyM_yes {a : Int} (h : 0 ≤ a ∧ a ≤ 4611686018427387904) : moneyM a = true := inM_iff.2 h
theorem sat_s (a b : Int) : g66 a b = some ((), ((satM a b, ()), ())) := by
 unfold g66 g122 satM
 have h1 := clampM_bd a
 have h2 := clampM_bd b
 rw [clamp_s, clamp_s]
 dsimp only [Option.bind_some]
 rw [money_s, money_s, moneyM_yes h1, moneyM_yes h2, subW_in (by omega) (by omega)]
 dsimp only [Option.bind_some, Bool.not_true, cond_false]
 by_cases h : 4611686018427387904 - clampM b < clampM a
 · rw [ltI_yes h, if_pos h]; rfl
 · rw [ltI_no h, if_neg h, addW_in (by omega) (by omega)]; rfl
theorem sat_i (a b : Int) : g130 a b = some ((), ((satM a b, ()), ())) := by
 have e : ∀ x : Int, mxI 0 (mnI x 4611686018427387904) = clampM x := fun x => by
  unfold mxI mnI clampM
  split <;> split <;> (try split) <;> omega
 have h1 := clampM_bd a
 have h2 := clampM_bd b
 unfold g130 satM
 dsimp only
 rw [e, e, subW_in (by omega) (by omega)]
 by_cases h : 4611686018427387904 - clampM b < clampM a
 · rw [ltI_yes h, if_pos h]; rfl
 · rw [ltI_no h, if_neg h, addW_in (by omega) (by omega)]; rfl
def storedM (xs : List HoldT) : Int := xs.foldl (fun a h => satM a h.2.1) 0
theorem stored_s (xs : List HoldT) (hs : xs.length ≤ big) : g67 xs = some ((), ((storedM xs, ()), ())) := by
 unfold g67
 have h := loop_list (step := fun (x : Int × (List HoldT) × Int × Int × Unit) => r67_0 x.1 x.2.1 x.2.2.1 x.2.2.2.1) xs (fun i (a : Int) => (a, xs, lenI xs, ((i : Nat) : Int), ())) (fun _ x a => Sum.inl (satM a x.2.1)) (fun a => .inl (a, xs, lenI xs, (xs.length : Int), ())) (a0 := 0) (fun i x a hx => by
  have hlt := lt_of_get hx
  show r67_0 a xs (lenI xs) (i : Int) = _
  unfold r67_0
  rw [ltI_in hx, inB_in hx, gt_in _ hx, addW1 (by omega), sat_s]; rfl) (fun a => by
  show r67_0 a xs (lenI xs) (xs.length : Int) = _
  unfold r67_0
  rw [ltI_out rfl]; rfl)
 rw [goL_fold (fun (x : HoldT) a => satM a x.2.1)] at h
 have h' : l67_0 0 xs (lenI xs) 0 = _ := h
 rw [h']; rfl
theorem stored_i (xs : List HoldT) (hs : xs.length ≤ big) : g131 xs = some ((), ((storedM xs, ()), ())) := by
 unfold g131
 have h := loop_list (step := fun (x : Int × (List HoldT) × Int × Int × Unit) => r131_0 x.1 x.2.1 x.2.2.1 x.2.2.2.1) xs (fun i (a : Int) => (a, xs, lenI xs, ((i : Nat) : Int), ())) (fun _ x a => Sum.inl (satM a x.2.1)) (fun a => .inl (a, xs, lenI xs, (xs.length : Int), ())) (a0 := 0) (fun i x a hx => by
  have hlt := lt_of_get hx
  show r131_0 a xs (lenI xs) (i : Int) = _
  unfold r131_0
  rw [ltI_in hx, inB_in hx, gt_in _ hx, addW1 (by omega), sat_i]; rfl) (fun a => by
  show r131_0 a xs (lenI xs) (xs.length : Int) = _
  unfold r131_0
  rw [ltI_out rfl]; rfl)
 rw [goL_fold (fun (x : HoldT) a => satM a x.2.1)] at h
 have h' : l131_0 0 xs (lenI xs) 0 = _ := h
 rw [h']; rfl
def ringM (r : RingT) : Bool := cond (inM r.1 1 1000) (cond (inM (lenI r.2.2.1) 1 8) (cond (eqI (lenI r.2.2.2.1) (lenI r.2.2.1)) (cond (timeM r.2.1) (r.2.2.1.all (fun x => moneyM x.1) && r.2.2.2.1.all (fun x => moneyM x.1)) false) false) false) false
def RingB (r : RingT) : Prop := r.2.2.1.length ≤ 1048576 ∧ r.2.2.2.1.length ≤ 1048576
theorem eqI_iff {a b : Int} : eqI a b = true ↔ a = b := by simp [eqI]
theorem ring_s (r : RingT) (hb : RingB r) : g64 r = some ((), ((ringM r, ()), ())) := by
 have hbig : big = 140737488355328 := rfl
 obtain ⟨hb1, hb2⟩ := hb
 unfold g64 ringM
 dsimp only
 rw [in_s, in_s, time_s]
 dsimp only [Option.bind_some]
 cases inM r.1 1 1000 with
 | false => rfl
 | true =>
 cases inM (lenI r.2.2.1) 1 8 with
 | false => rfl
 | true =>
 cases he : eqI (lenI r.2.2.2.1) (lenI r.2.2.1) with
 | false => rfl
 | true =>
 cases timeM r.2.1 with
 | false => rfl
 | true =>
 have hlen : r.2.2.2.1.length = r.2.2.1.length := by
  have := eqI_iff.1 he
  unfold lenI at this; omega
 dsimp only [cond_true, cond_false, Bool.not_true]
 have h := loop_list (step := fun (x : Int × Int × RingT × Unit) => r64_0 x.1 x.2.1 x.2.2.1) (r.2.2.1.zip r.2.2.2.1) (fun i (_ : Unit) => (lenI r.2.2.1, ((i : Nat) : Int), r, ())) (fun _ x _ => bif moneyM x.1.1 && moneyM x.2.1 then Sum.inl () else .inr (.inr (false, ()))) (fun _ => .inl (lenI r.2.2.1, (r.2.2.1.length : Int), r, ())) (a0 := ()) (fun i x a hx => by
  have hx' := List.getElem?_zip_eq_some.1 hx
  have hlt := lt_of_get hx'.1
  show r64_0 (lenI r.2.2.1) (i : Int) r = _
  unfold r64_0
  rw [ltI_in hx'.1, inB_in hx'.1, inB_in hx'.2, gt_in _ hx'.1, gt_in _ hx'.2, money_s, money_s, addW1 (by omega)]
  dsimp only [cond_true, Option.bind_some]
  cases moneyM x.1.1 <;> cases moneyM x.2.1 <;> rfl) (fun a => by
  have e : (r.2.2.1.zip r.2.2.2.1).length = r.2.2.1.length := by rw [List.length_zip, hlen, Nat.min_self]
  rw [e]
  show r64_0 (lenI r.2.2.1) (r.2.2.1.length : Int) r = _
  unfold r64_0
  rw [ltI_out rfl]; rfl)
 rw [goL_all (fun (x : (Int × Unit) × (Int × Unit)) => moneyM x.1.1 && moneyM x.2.1)] at h
 have h' : l64_0 (lenI r.2.2.1) 0 r = _ := h
 rw [h']
 have hz : ∀ (a b : List (Int × Unit)), b.length = a.length → (a.zip b).all (fun x => moneyM x.1.1 && moneyM x.2.1) = (a.all (fun x => moneyM x.1) && b.all (fun x => moneyM x.1)) := by
  intro a
  induction a with
  | nil => intro b hb; cases b with | nil => rfl | cons _ _ => simp at hb
  | cons x a ih =>
    intro b hb
    cases b with
    | nil => simp at hb
    | cons y b =>
      simp only [List.zip_cons_cons, List.all_cons]
      rw [ih b (by simpa using hb)]
      cases moneyM x.1 <;> cases moneyM y.1 <;> simp
 rw [hz _ _ hlen]
 cases r.2.2.1.all (fun x => moneyM x.1) && r.2.2.2.1.all (fun x => moneyM x.1) <;> rfl
theorem concat_i (a b : List (Int × Unit)) (ha : a.length ≤ 1048576) (hb : b.length ≤ 1048576) : g169 [(a, ()), (b, ())] = some ((), ((a ++ b, ()), ())) := by
 have hbig : big = 140737488355328 := rfl
 unfold g169
 have hlen : ((a.length + b.length : Nat) : Int) = (a.length : Int) + b.length := by omega
 have h : l169_0 [(a, ()), (b, ())] 0 [(a, ()), (b, ())] 2 0 = some (.inl ([(a, ()), (b, ())], (a.length : Int) + b.length, [(a, ()), (b, ())], 2, 2, ())) := by
  refine loopF_step _ (x' := ([(a, ()), (b, ())], (a.length : Int), [(a, ()), (b, ())], 2, 1, ())) ?_ (loopF_step _ (x' := ([(a, ()), (b, ())], (a.length : Int) + b.length, [(a, ()), (b, ())], 2, 2, ())) ?_ (loopF_end _ ?_))
  · show r169_0 [(a, ()), (b, ())] 0 [(a, ()), (b, ())] 2 0 = _
    unfold r169_0
    have e : addW .i64 0 (lenI (gt d23 [(a, ()), (b, ())] 0).1) = (a.length : Int) := by
     show addW .i64 0 (lenI a) = _
     rw [addW_in (by unfold lenI; omega) (by unfold lenI; omega)]; unfold lenI; omega
    dsimp only
    rw [e, ltI_no (a := (a.length : Int)) (b := 0) (by omega)]; rfl
  · show r169_0 [(a, ()), (b, ())] (a.length : Int) [(a, ()), (b, ())] 2 1 = _
    unfold r169_0
    have e : addW .i64 (a.length : Int) (lenI (gt d23 [(a, ()), (b, ())] 1).1) = (a.length : Int) + b.length := by
     show addW .i64 (a.length : Int) (lenI b) = _
     rw [addW_in (by unfold lenI; omega) (by unfold lenI; omega)]; unfold lenI; omega
    dsimp only
    rw [e, ltI_no (a := (a.length : Int) + b.length) (b := 0) (by omega)]; rfl
  · rfl
 have h1 : l169_0 [(a, ()), (b, ())] 0 [(a, ()), (b, ())] (lenI [(a, ()), (b, ())]) 0 = _ := h
 have hg : g191 ((a.length : Int) + b.length) = some ((), (([], ()), ())) := by
  unfold g191
  dsimp only
  rw [ltI_no (by omega), subW_in (a := 0) (b := 0) (by decide) (by decide), subW_in (by omega) (by omega)]
  by_cases h0 : (0 : Int) < (a.length : Int) + b.length - (0 - 0)
  · have e2 : mzB 8 ((a.length : Int) + b.length - (0 - 0)) = true := by
     unfold mzB leI
     rw [decide_eq_true (by omega), decide_eq_true (by rw [hbig]; omega)]; rfl
    have e3 : cutB 0 0 (repI d3 ((a.length : Int) + b.length - (0 - 0))) = true := by
     unfold cutB cutOk leI
     rw [decide_eq_true (by decide), decide_eq_true (by omega)]; rfl
    rw [ltI_yes h0, e2, e3]
    rfl
  · rw [ltI_no h0]; rfl
 have h2 : l169_2 [] [(a, ()), (b, ())] 2 0 = some (.inl (a ++ b, [(a, ()), (b, ())], 2, 2, ())) := by
  refine loopF_step _ (x' := (a, [(a, ()), (b, ())], 2, 1, ())) ?_ (loopF_step _ (x' := (a ++ b, [(a, ()), (b, ())], 2, 2, ())) ?_ (loopF_end _ ?_))
  · show r169_2 [] [(a, ()), (b, ())] 2 0 = _
    unfold r169_2
    have e : fitB 8 ([] : List (Int × Unit)) (gt d23 [(a, ()), (b, ())] 0).1 = true := Nat.ble_eq_true_of_le (by show (0 + a.length) * 8 ≤ big; omega)
    rw [e]; rfl
  · show r169_2 a [(a, ()), (b, ())] 2 1 = _
    unfold r169_2
    have e : fitB 8 a (gt d23 [(a, ()), (b, ())] 1).1 = true := Nat.ble_eq_true_of_le (by show (a.length + b.length) * 8 ≤ big; omega)
    rw [e]; rfl
  · rfl
 have h2' : l169_2 [] [(a, ()), (b, ())] (lenI [(a, ()), (b, ())]) 0 = _ := h2
 rw [h1]
 dsimp only [Option.bind_some, Sum.elim_inl]
 rw [hg]
 dsimp only [Option.bind_some, Sum.elim_inl]
 rw [h2']; rfl
theorem ring_i (r : RingT) (hb : RingB r) : g128 r = some ((), ((ringM r, ()), ())) := by
 have hbig : big = 140737488355328 := rfl
 obtain ⟨hb1, hb2⟩ := hb
 unfold g128
 rw [concat_i _ _ hb1 hb2]
 dsimp only [Option.bind_some]
 have h := loop_list (step := fun (x : Int × (List (Int × Unit)) × Int × Int × RingT × Unit) => r128_0 x.1 x.2.1 x.2.2.1 x.2.2.2.1 x.2.2.2.2.1) (r.2.2.1 ++ r.2.2.2.1) (fun i (_ : Unit) => (lenI r.2.2.1, r.2.2.1 ++ r.2.2.2.1, lenI (r.2.2.1 ++ r.2.2.2.1), ((i : Nat) : Int), r, ())) (fun _ x _ => bif moneyM x.1 then Sum.inl () else .inr (.inr (false, ()))) (fun _ => .inl (lenI r.2.2.1, r.2.2.1 ++ r.2.2.2.1, lenI (r.2.2.1 ++ r.2.2.2.1), ((r.2.2.1 ++ r.2.2.2.1).length : Int), r, ())) (a0 := ()) (fun i x a hx => by
  have hlt := lt_of_get hx
  rw [List.length_append] at hlt
  show r128_0 (lenI r.2.2.1) (r.2.2.1 ++ r.2.2.2.1) (lenI (r.2.2.1 ++ r.2.2.2.1)) (i : Int) r = _
  unfold r128_0
  rw [ltI_in hx, inB_in hx, gt_in _ hx, money_i, addW1 (by omega)]
  dsimp only [cond_true, Option.bind_some]
  cases moneyM x.1 <;> rfl) (fun a => by
  show r128_0 (lenI r.2.2.1) (r.2.2.1 ++ r.2.2.2.1) (lenI (r.2.2.1 ++ r.2.2.2.1)) ((r.2.2.1 ++ r.2.2.2.1).length : Int) r = _
  unfold r128_0
  rw [ltI_out rfl]; rfl)
 rw [goL_all (fun (x : Int × Unit) => moneyM x.1)] at h
 have h' : l128_0 (lenI r.2.2.1) (r.2.2.1 ++ r.2.2.2.1) (lenI (r.2.2.1 ++ r.2.2.2.1)) 0 r = _ := h
 rw [h', List.all_append]
 unfold ringM
 cases r.2.2.1.all (fun x => moneyM x.1) && r.2.2.2.1.all (fun x => moneyM x.1) with
 | false =>
   cases inM r.1 1 1000 <;> cases inM (lenI r.2.2.1) 1 8 <;> cases eqI (lenI r.2.2.2.1) (lenI r.2.2.1) <;> cases timeM r.2.1 <;> rfl
 | true =>
   dsimp only [cond_true, Option.bind_some, Sum.elim_inl]
   rw [in_i, in_i, time_i]
   dsimp only [Option.bind_some]
   cases inM r.1 1 1000 <;> cases inM (lenI r.2.2.1) 1 8 <;> cases eqI (lenI r.2.2.2.1) (lenI r.2.2.1) <;> cases timeM r.2.1 <;> rfl
theorem ringM_spec {r : RingT} (h : ringM r = true) : (1 ≤ r.1 ∧ r.1 ≤ 1000) ∧ (1 ≤ r.2.2.1.length ∧ r.2.2.1.length ≤ 8) ∧ r.2.2.2.1.length = r.2.2.1.length ∧ (0 ≤ r.2.1 ∧ r.2.1 ≤ 1000000000) := by
 unfold ringM at h
 cases h1 : inM r.1 1 1000 with
 | false => rw [h1] at h; simp at h
 | true =>
 cases h2 : inM (lenI r.2.2.1) 1 8 with
 | false => rw [h1, h2] at h; simp at h
 | true =>
 cases h3 : eqI (lenI r.2.2.2.1) (lenI r.2.2.1) with
 | false => rw [h1, h2, h3] at h; simp at h
 | true =>
 cases h4 : timeM r.2.1 with
 | false => rw [h1, h2, h3, h4] at h; simp at h
 | true =>
 have a := inM_iff.1 h1
 have b := inM_iff.1 h2
 have c := eqI_iff.1 h3
 have d := inM_iff.1 h4
 unfold lenI at b c
 exact ⟨a, ⟨by omega, by omega⟩, by omega, d⟩
def slotM (s : SlotT) : Bool := cond (cond (digitsM s.1) (eqI (lenI s.1) 6) false) (cond (cond (digitsM s.2.1) (eqI (lenI s.2.1) 4) false) (inM (lenI s.2.2.1) 1 200) false) false
def SlotB (s : SlotT) : Prop := s.1.length ≤ big ∧ s.2.1.length ≤ big
theorem slot_s (s : SlotT) (hb : SlotB s) : g121 s = some ((), ((slotM s, ()), ())) := by
 unfold g121 slotM
 rw [digits_s _ hb.1, digits_s _ hb.2]
 dsimp only [Option.bind_some]
 rw [in_s]
 cases cond (digitsM s.1) (eqI (lenI s.1) 6) false <;> cases cond (digitsM s.2.1) (eqI (lenI s.2.1) 4) false <;> rfl
theorem slot_i (s : SlotT) (hb : SlotB s) : g170 s = some ((), ((slotM s, ()), ())) := by
 unfold g170 g98 slotM
 rw [digits_i _ hb.1, digits_i _ hb.2]
 dsimp only [Option.bind_some]
 rw [in_i]
 cases cond (digitsM s.1) (eqI (lenI s.1) 6) false <;> cases cond (digitsM s.2.1) (eqI (lenI s.2.1) 4) false <;> rfl
def sameSlot (a b : SlotT) : Bool := cond (eqS a.1 b.1) (eqS a.2.1 b.2.1) false
def slotStep (xs : List SlotT) (i : Nat) (x : SlotT) : Bool := cond (slotM x) ((xs.take i).all (fun y => !sameSlot y x)) false
def slotsM (xs : List SlotT) : Bool := cond (allI (slotStep xs) 0 xs) (leI (lenI xs) 6) false
def SlotsB (xs : List SlotT) : Prop := xs.length ≤ 1048576 ∧ ∀ y ∈ xs, SlotB y
theorem sub_take {α : Type} (xs : List α) (i : Nat) : sub xs 0 (i : Int) = xs.take i := by unfold sub; simp
theorem cutB_take {α : Type} {xs : List α} {i : Nat} (h : i ≤ xs.length) : cutB 0 (i : Int) xs = true := by
 unfold cutB cutOk leI
 rw [decide_eq_true (by decide), decide_eq_true (by omega), decide_eq_true (by omega)]; rfl
theorem slots_s (xs : List SlotT) (hb : SlotsB xs) : g65 xs = some ((), ((slotsM xs, ()), ())) := by
 have hbig : big = 140737488355328 := rfl
 have hb1 := hb.1
 unfold g65
 have inner : ∀ (i : Nat) (x : SlotT), i ≤ xs.length → l65_2 xs xs (lenI xs) (i : Int) (xs.take i) (lenI (xs.take i)) 0 x = some (bif (xs.take i).all (fun y => !sameSlot y x) then .inl (xs, xs, lenI xs, (i : Int), xs.take i, lenI (xs.take i), ((xs.take i).length : Int), x, ()) else .inr (false, ())) := fun i x hi => by
  have hti : (xs.take i).length ≤ xs.length := by rw [List.length_take]; exact Nat.min_le_right _ _
  have h := loop_list (step := fun (z : (List SlotT) × (List SlotT) × Int × Int × (List SlotT) × Int × Int × SlotT × Unit) => r65_2 z.1 z.2.1 z.2.2.1 z.2.2.2.1 z.2.2.2.2.1 z.2.2.2.2.2.1 z.2.2.2.2.2.2.1 z.2.2.2.2.2.2.2.1) (xs.take i) (fun j (_ : Unit) => (xs, xs, lenI xs, (i : Int), xs.take i, lenI (xs.take i), ((j : Nat) : Int), x, ())) (fun _ y _ => bif !sameSlot y x then Sum.inl () else .inr (.inr (false, ()))) (fun _ => .inl (xs, xs, lenI xs, (i : Int), xs.take i, lenI (xs.take i), ((xs.take i).length : Int), x, ())) (a0 := ()) (fun j y a hy => by
   have hlt := lt_of_get hy
   show r65_2 xs xs (lenI xs) (i : Int) (xs.take i) (lenI (xs.take i)) (j : Int) x = _
   unfold r65_2 sameSlot
   rw [ltI_in hy, inB_in hy, gt_in _ hy, addW1 (by omega)]
   dsimp only [cond_true]
   cases cond (eqS y.1 x.1) (eqS y.2.1 x.2.1) false <;> rfl) (fun a => by
   show r65_2 xs xs (lenI xs) (i : Int) (xs.take i) (lenI (xs.take i)) ((xs.take i).length : Int) x = _
   unfold r65_2
   rw [ltI_out rfl]; rfl)
  rw [goL_all (fun y => !sameSlot y x)] at h
  exact h
 have h := loop_list (step := fun (x : (List SlotT) × (List SlotT) × Int × Int × Unit) => r65_0 x.1 x.2.1 x.2.2.1 x.2.2.2.1) xs (fun i (_ : Unit) => (xs, xs, lenI xs, ((i : Nat) : Int), ())) (fun i x _ => bif slotStep xs i x then Sum.inl () else .inr (.inr (false, ()))) (fun _ => .inl (xs, xs, lenI xs, (xs.length : Int), ())) (a0 := ()) (fun i x a hx => by
  have hlt := lt_of_get hx
  show r65_0 xs xs (lenI xs) (i : Int) = _
  unfold r65_0 slotStep
  rw [ltI_in hx, inB_in hx, gt_in _ hx]
  dsimp only [cond_true]
  rw [slot_s x (hb.2 x (List.mem_of_getElem? hx)), cutB_take (Nat.le_of_lt hlt), sub_take]
  dsimp only [cond_true, Option.bind_some]
  rw [inner i x (Nat.le_of_lt hlt)]
  cases slotM x with
  | false => rfl
  | true =>
    cases (xs.take i).all (fun y => !sameSlot y x) with
    | false => rfl
    | true =>
      dsimp only [cond_true, cond_false, Bool.not_true, Option.bind_some, Sum.elim_inl]
      rw [addW1 (by omega)]; rfl) (fun a => by
  show r65_0 xs xs (lenI xs) (xs.length : Int) = _
  unfold r65_0
  rw [ltI_out rfl]; rfl)
 rw [goL_allI] at h
 have h' : l65_0 xs xs (lenI xs) 0 = _ := h
 rw [h']
 unfold slotsM
 cases allI (slotStep xs) 0 xs <;> rfl
def findI {α : Type} (p : α → Bool) : Nat → List α → Int
 | _, [] => -1
 | i, x :: r => bif p x then (i : Int) else findI p (i + 1) r
theorem goL_find {α Y : Type} (p : α → Bool) (y : Int → Y) (z : Y) (out : Y → Int) (hy : ∀ n, out (y n) = n) (hz : out z = -1) : ∀ (xs : List α) (i : Nat), out (goL (fun i x _ => bif p x then Sum.inr (y (i : Int)) else .inl ()) (fun _ => z) i xs ()) = findI p i xs
 | [], _ => hz
 | x :: r, i => by
   rw [goL, findI]
   cases hp : p x with
   | true => exact hy _
   | false => exact goL_find p y z out hy hz r (i + 1)
theorem findI_bd {α : Type} (p : α → Bool) : ∀ (xs : List α) (i : Nat), findI p i xs = -1 ∨ ((i : Int) ≤ findI p i xs ∧ findI p i xs < i + xs.length)
 | [], _ => .inl rfl
 | x :: r, i => by
   rw [findI]
   cases p x with
   | true => right; simp only [cond_true, List.length_cons]; omega
   | false =>
     rcases findI_bd p r (i + 1) with h | h
     · exact .inl h
     · right; simp only [cond_false, List.length_cons]; omega
theorem findI_eq {α : Type} (p : α → Bool) : ∀ {xs : List α} {i : Nat} {x : α} (k : Nat), xs[i]? = some x → p x = true → (findI p k xs = ((k + i : Nat) : Int) ↔ (xs.take i).all (fun y => !p y) = true)
 | [], i, x, k, h, _ => by simp at h
 | y :: r, 0, x, k, h, hp => by
   simp only [List.getElem?_cons_zero, Option.some.injEq] at h
   subst h
   rw [findI, hp]; simp
 | y :: r, i + 1, x, k, h, hp => by
   have ih := findI_eq p (xs := r) (i := i) (x := x) (k + 1) (by simpa using h) hp
   rw [findI, List.take_succ_cons, List.all_cons]
   cases hy : p y with
   | true =>
     simp only [cond_true, Bool.not_true, Bool.false_and, Bool.false_eq_true, iff_false]
     omega
   | false =>
     simp only [cond_false, Bool.not_false, Bool.true_and]
     rw [← ih, show k + 1 + i = k + (i + 1) by omega]
theorem slotAt_i (xs : List SlotT) (a b : List UInt8) (hs : xs.length ≤ 1048576) : g171 xs a b = some ((), ((findI (fun y => cond (eqS y.1 a) (eqS y.2.1 b) false) 0 xs, ()), ())) := by
 have hbig : big = 140737488355328 := rfl
 unfold g171 g192
 have h := loop_list (step := fun (z : (List SlotT) × (((List UInt8) × Unit) × ((List UInt8) × Unit) × Unit) × Int × Int × Unit) => r192_0 z.1 z.2.1 z.2.2.1 z.2.2.2.1) xs (fun i (_ : Unit) => (xs, ((a, ()), (b, ()), ()), lenI xs, ((i : Nat) : Int), ())) (fun i y _ => bif cond (eqS y.1 a) (eqS y.2.1 b) false then Sum.inr (.inr ((i : Int), ())) else Sum.inl ()) (fun _ => .inl (xs, ((a, ()), (b, ()), ()), lenI xs, (xs.length : Int), ())) (a0 := ()) (fun i y u hy => by
  have hlt := lt_of_get hy
  show r192_0 xs ((a, ()), (b, ()), ()) (lenI xs) (i : Int) = _
  unfold r192_0 g193
  rw [ltI_in hy, inB_in hy, gt_in _ hy, addW1 (by omega)]
  dsimp only [cond_true, Option.bind_some]
  cases cond (eqS y.1 a) (eqS y.2.1 b) false <;> rfl) (fun u => by
  show r192_0 xs ((a, ()), (b, ()), ()) (lenI xs) (xs.length : Int) = _
  unfold r192_0
  rw [ltI_out rfl]; rfl)
 have h' : l192_0 xs ((a, ()), (b, ()), ()) (lenI xs) 0 = _ := h
 rw [h']
 have hf := goL_find (Y := Sum ((List SlotT) × (((List UInt8) × Unit) × ((List UInt8) × Unit) × Unit) × Int × Int × Unit) (Int × Unit)) (fun (y : SlotT) => cond (eqS y.1 a) (eqS y.2.1 b) false) (fun n => .inr (n, ())) (.inl (xs, ((a, ()), (b, ()), ()), lenI xs, (xs.length : Int), ())) (fun y => match y with | .inl _ => -1 | .inr z => z.1) (fun _ => rfl) rfl xs 0
 rw [← hf]
 dsimp only [Option.bind_some]
 cases goL _ _ 0 xs () <;> rfl
theorem slots_i (xs : List SlotT) (hb : SlotsB xs) : g129 xs = some ((), ((slotsM xs, ()), ())) := by
 have hbig : big = 140737488355328 := rfl
 have hb1 := hb.1
 unfold g129
 have h := loop_list (step := fun (x : (List SlotT) × (List SlotT) × Int × Int × Unit) => r129_0 x.1 x.2.1 x.2.2.1 x.2.2.2.1) xs (fun i (_ : Unit) => (xs, xs, lenI xs, ((i : Nat) : Int), ())) (fun i x _ => bif slotStep xs i x then Sum.inl () else .inr (.inr (false, ()))) (fun _ => .inl (xs, xs, lenI xs, (xs.length : Int), ())) (a0 := ()) (fun i x a hx => by
  have hlt := lt_of_get hx
  show r129_0 xs xs (lenI xs) (i : Int) = _
  unfold r129_0 slotStep
  rw [ltI_in hx, inB_in hx, gt_in _ hx]
  dsimp only [cond_true]
  rw [slot_i x (hb.2 x (List.mem_of_getElem? hx))]
  dsimp only [cond_true, Option.bind_some]
  rw [slotAt_i xs _ _ hb1, addW1 (by omega)]
  have hp : cond (eqS x.1 x.1) (eqS x.2.1 x.2.1) false = true := by rw [eqS_refl, eqS_refl]; rfl
  have hk := findI_eq (fun (y : SlotT) => cond (eqS y.1 x.1) (eqS y.2.1 x.2.1) false) 0 hx hp
  rw [Nat.zero_add, ← eqI_iff] at hk
  have hk' : eqI (findI (fun (y : SlotT) => cond (eqS y.1 x.1) (eqS y.2.1 x.2.1) false) 0 xs) (i : Int) = (xs.take i).all (fun y => !sameSlot y x) := by
   rw [Bool.eq_iff_iff]; exact hk
  cases slotM x with
  | false => rfl
  | true =>
    dsimp only [cond_true, cond_false, Bool.not_true, Option.bind_some]
    rw [hk']
    cases (xs.take i).all (fun y => !sameSlot y x) <;> rfl) (fun a => by
  show r129_0 xs xs (lenI xs) (xs.length : Int) = _
  unfold r129_0
  rw [ltI_out rfl]; rfl)
 rw [goL_allI] at h
 have h' : l129_0 xs xs (lenI xs) 0 = _ := h
 rw [h']
 unfold slotsM
 cases allI (slotStep xs) 0 xs <;> rfl
abbrev AcctT := List UInt8 × Int × Int × Int × Int × List HoldT × Int × Int × List (Int × Unit) × List (Int × Unit) × List SlotT × Unit
def rgOf (a : AcctT) : RingT := (a.2.2.2.2.2.2.1, a.2.2.2.2.2.2.2.1, a.2.2.2.2.2.2.2.2.1, a.2.2.2.2.2.2.2.2.2.1, ())
def AcctB (a : AcctT) : Prop := a.1.length ≤ 1048576 ∧ (a.2.2.2.2.2.1.length ≤ 1048576 ∧ ∀ y ∈ a.2.2.2.2.2.1, y.1.length ≤ 1048576) ∧ RingB (rgOf a) ∧ a.2.2.2.2.2.2.2.2.2.2.1.length ≤ 1048576 ∧ ∀ y ∈ a.2.2.2.2.2.2.2.2.2.2.1, y.1.length ≤ 1048576 ∧ y.2.1.length ≤ 1048576 ∧ y.2.2.1.length ≤ 1048576
theorem le_big {n : Nat} (h : n ≤ 1048576) : n ≤ big := Nat.le_trans h (by decide)
theorem AcctB.hs {a : AcctT} (h : AcctB a) : HoldsB a.2.2.2.2.2.1 := ⟨le_big h.2.1.1, fun y hy => le_big (h.2.1.2 y hy)⟩
theorem AcctB.ss {a : AcctT} (h : AcctB a) : SlotsB a.2.2.2.2.2.2.2.2.2.2.1 := ⟨h.2.2.2.1, fun y hy => ⟨le_big (h.2.2.2.2 y hy).1, le_big (h.2.2.2.2 y hy).2.1⟩⟩
def acctM (a : AcctT) : Bool := cond (acctIdM a.1) (cond (inM a.2.1 0 9007199254740992) (cond (inM a.2.2.2.1 0 1000) (cond (inM a.2.2.2.2.1 0 9007199254740992) (cond (moneyM a.2.2.1) (cond (holdsM a.2.2.2.2.2.1) (cond (ringM (rgOf a)) (cond (slotsM a.2.2.2.2.2.2.2.2.2.2.1) (leI (satM a.2.2.1 (storedM a.2.2.2.2.2.1)) a.2.1) false) false) false) false) false) false) false) false
theorem acct_s (a : AcctT) (hb : AcctB a) : g22 a = some ((), ((acctM a, ()), ())) := by
 have h1 := acctId_s a.1 (le_big hb.1)
 have h2 := holds_s _ hb.hs
 have h3 : g64 (a.2.2.2.2.2.2.1, a.2.2.2.2.2.2.2.1, a.2.2.2.2.2.2.2.2.1, a.2.2.2.2.2.2.2.2.2.1, ()) = _ := ring_s (rgOf a) hb.2.2.1
 have h4 := slots_s _ hb.ss
 have h5 := stored_s _ hb.hs.1
 unfold g22 acctM
 rw [h1, h2, h3, h4, h5, in_s, in_s, in_s, money_s]
 dsimp only [Option.bind_some]
 rw [sat_s]
 dsimp only [Option.bind_some]
 cases acctIdM a.1 <;> first | rfl | skip
 cases inM a.2.1 0 9007199254740992 <;> first | rfl | skip
 cases inM a.2.2.2.1 0 1000 <;> first | rfl | skip
 cases inM a.2.2.2.2.1 0 9007199254740992 <;> first | rfl | skip
 cases moneyM a.2.2.1 <;> first | rfl | skip
 cases holdsM a.2.2.2.2.2.1 <;> first | rfl | skip
 cases ringM (rgOf a) <;> first | rfl | skip
 cases slotsM a.2.2.2.2.2.2.2.2.2.2.1 <;> rfl
theorem acct_i (a : AcctT) (hb : AcctB a) : g73 a = some ((), ((acctM a, ()), ())) := by
 have h1 := acctId_i a.1 (le_big hb.1)
 have h2 := holds_i _ hb.hs
 have h3 : g128 (a.2.2.2.2.2.2.1, a.2.2.2.2.2.2.2.1, a.2.2.2.2.2.2.2.2.1, a.2.2.2.2.2.2.2.2.2.1, ()) = _ := ring_i (rgOf a) hb.2.2.1
 have h4 := slots_i _ hb.ss
 have h5 := stored_i _ hb.hs.1
 unfold g73 acctM
 rw [h1, h2, h3, h4, h5, in_i, in_i, in_i, money_i]
 dsimp only [Option.bind_some]
 rw [sat_i]
 dsimp only [Option.bind_some]
 cases acctIdM a.1 <;> first | rfl | skip
 cases inM a.2.1 0 9007199254740992 <;> first | rfl | skip
 cases inM a.2.2.2.1 0 1000 <;> first | rfl | skip
 cases inM a.2.2.2.2.1 0 9007199254740992 <;> first | rfl | skip
 cases moneyM a.2.2.1 <;> first | rfl | skip
 cases holdsM a.2.2.2.2.2.1 <;> first | rfl | skip
 cases ringM (rgOf a) <;> first | rfl | skip
 cases slotsM a.2.2.2.2.2.2.2.2.2.2.1 <;> rfl
theorem fitB_nil {α : Type} {b : Nat} {xs : List α} (h : xs.length * b ≤ big) : fitB b ([] : List α) xs = true := Nat.ble_eq_true_of_le (by simpa using h)
theorem ringCp_s (r : RingT) (hb : RingB r) : g94 r = some ((), (r, ())) := by
 have hbig : big = 140737488355328 := rfl
 obtain ⟨h1, h2⟩ := hb
 unfold g94
 rw [fitB_nil (by omega), fitB_nil (by omega)]; rfl
theorem ringCp_i (r : RingT) (hb : RingB r) : g154 r = some ((), (r, ())) := by
 have hbig : big = 140737488355328 := rfl
 obtain ⟨h1, h2⟩ := hb
 unfold g154 g185
 rw [fitB_nil (by omega), fitB_nil (by omega)]; rfl
theorem slotsCp_s (xs : List SlotT) (hs : xs.length ≤ 1048576) (hb : ∀ y ∈ xs, y.2.2.1.length ≤ 1048576) : g95 xs = some ((), ((xs, ()), ())) := by
 have hbig : big = 140737488355328 := rfl
 unfold g95
 have h := loop_inv (step := fun (z : (List SlotT) × (List SlotT) × Int × Int × Unit) => r95_0 z.1 z.2.1 z.2.2.1 z.2.2.2.1) xs (fun i (a : List SlotT) => (a, xs, lenI xs, ((i : Nat) : Int), ())) (fun _ x a => Sum.inl (a ++ [x])) (fun a => .inl (a, xs, lenI xs, (xs.length : Int), ())) (fun i a => a.length = i) (a0 := []) rfl (fun i x a hx ha => by
  have hlt := lt_of_get hx
  have hm := hb x (List.mem_of_getElem? hx)
  show r95_0 a xs (lenI xs) (i : Int) = _
  unfold r95_0
  have e : ∀ y : SlotT, fitB 56 a [y] = true := fun y => Nat.ble_eq_true_of_le (by simp; omega)
  rw [ltI_in hx, inB_in hx, gt_in _ hx]
  dsimp only [cond_true]
  rw [fitB_nil (by omega), e, addW1 (by omega)]
  rfl) (fun i x a a' hx ha hf => by
  simp only [Sum.inl.injEq] at hf
  rw [← hf, List.length_append, ha]; rfl) (fun a ha => by
  show r95_0 a xs (lenI xs) (xs.length : Int) = _
  unfold r95_0
  rw [ltI_out rfl]; rfl)
 rw [goL_cp] at h
 have h' : l95_0 [] xs (lenI xs) 0 = _ := h
 rw [h']; rfl
theorem slotsCp_i (xs : List SlotT) (hs : xs.length ≤ 1048576) (hb : ∀ y ∈ xs, y.2.2.1.length ≤ 1048576) : g155 xs = some ((), ((xs, ()), ())) := by
 have hbig : big = 140737488355328 := rfl
 unfold g155
 have h := loop_inv (step := fun (z : (List SlotT) × (List SlotT) × Int × Int × Unit) => r155_0 z.1 z.2.1 z.2.2.1 z.2.2.2.1) xs (fun i (a : List SlotT) => (a, xs, lenI xs, ((i : Nat) : Int), ())) (fun _ x a => Sum.inl (a ++ [x])) (fun a => .inl (a, xs, lenI xs, (xs.length : Int), ())) (fun i a => a.length = i) (a0 := []) rfl (fun i x a hx ha => by
  have hlt := lt_of_get hx
  have hm := hb x (List.mem_of_getElem? hx)
  show r155_0 a xs (lenI xs) (i : Int) = _
  unfold r155_0 g186
  have e : ∀ y : SlotT, fitB 56 a [y] = true := fun y => Nat.ble_eq_true_of_le (by simp; omega)
  rw [ltI_in hx, inB_in hx, gt_in _ hx]
  dsimp only [cond_true]
  rw [fitB_nil (by omega), addW1 (by omega)]
  dsimp only [cond_true, Option.bind_some]
  rw [e]
  rfl) (fun i x a a' hx ha hf => by
  simp only [Sum.inl.injEq] at hf
  rw [← hf, List.length_append, ha]; rfl) (fun a ha => by
  show r155_0 a xs (lenI xs) (xs.length : Int) = _
  unfold r155_0
  rw [ltI_out rfl]; rfl)
 rw [goL_cp] at h
 have h' : l155_0 [] xs (lenI xs) 0 = _ := h
 rw [h']; rfl
theorem acctCp_s (a : AcctT) (hb : AcctB a) : g41 a = some ((), (a, ())) := by
 have hbig : big = 140737488355328 := rfl
 have h1 := hb.2.1.1
 have h2 : g94 (a.2.2.2.2.2.2.1, a.2.2.2.2.2.2.2.1, a.2.2.2.2.2.2.2.2.1, a.2.2.2.2.2.2.2.2.2.1, ()) = _ := ringCp_s (rgOf a) hb.2.2.1
 have h3 := slotsCp_s _ hb.2.2.2.1 (fun y hy => (hb.2.2.2.2 y hy).2.2)
 unfold g41
 rw [fitB_nil (by omega), h2, h3]; rfl
theorem acctCp_i (a : AcctT) (hb : AcctB a) : g104 a = some ((), (a, ())) := by
 have hbig : big = 140737488355328 := rfl
 have h1 := hb.2.1.1
 have h2 : g154 (a.2.2.2.2.2.2.1, a.2.2.2.2.2.2.2.1, a.2.2.2.2.2.2.2.2.1, a.2.2.2.2.2.2.2.2.2.1, ()) = _ := ringCp_i (rgOf a) hb.2.2.1
 have h3 := slotsCp_i _ hb.2.2.2.1 (fun y hy => (hb.2.2.2.2 y hy).2.2)
 unfold g104 g153
 rw [fitB_nil (by omega), h2, h3]; rfl
theorem goL_filter {α Y : Type} (p : α → Bool) (z : List α → Y) : ∀ (xs : List α) (i : Nat) (d : List α), goL (fun _ x (a : List α) => Sum.inl (bif p x then a ++ [x] else a)) z i xs d = z (d ++ xs.filter p)
 | [], _, d => by simp [goL]
 | x :: r, i, d => by
   rw [goL]
   simp only
   rw [goL_filter p z r (i + 1)]
   cases hp : p x with
   | true => simp [hp]
   | false => simp [hp]
def liveM (now : Int) (h : HoldT) : Bool := ltI now h.2.2.1
theorem live_s (xs : List HoldT) (now : Int) (hs : xs.length ≤ 1048576) : g124 xs now = some ((), ((xs.filter (liveM now), ()), ())) := by
 have hbig : big = 140737488355328 := rfl
 unfold g124
 have h := loop_inv (step := fun (z : Int × (List HoldT) × (List HoldT) × Int × Int × Unit) => r124_0 z.1 z.2.1 z.2.2.1 z.2.2.2.1 z.2.2.2.2.1) xs (fun i (a : List HoldT) => (now, a, xs, lenI xs, ((i : Nat) : Int), ())) (fun _ x a => Sum.inl (bif liveM now x then a ++ [x] else a)) (fun a => .inl (now, a, xs, lenI xs, (xs.length : Int), ())) (fun i a => a.length ≤ i) (a0 := []) (Nat.le_refl _) (fun i x a hx ha => by
  have hlt := lt_of_get hx
  show r124_0 now a xs (lenI xs) (i : Int) = _
  unfold r124_0 g167 liveM
  have e : ∀ y : HoldT, fitB 32 a [y] = true := fun y => Nat.ble_eq_true_of_le (by simp; omega)
  rw [ltI_in hx, inB_in hx, gt_in _ hx]
  dsimp only [cond_true, Option.bind_some]
  rw [e, addW1 (by omega)]
  cases ltI now x.2.2.1 <;> rfl) (fun i x a a' hx ha hf => by
  simp only [Sum.inl.injEq] at hf
  rw [← hf]
  cases liveM now x with
  | true => simp; omega
  | false => simp; omega) (fun a ha => by
  show r124_0 now a xs (lenI xs) (xs.length : Int) = _
  unfold r124_0
  rw [ltI_out rfl]; rfl)
 rw [goL_filter] at h
 have h' : l124_0 now [] xs (lenI xs) 0 = _ := h
 rw [h']; rfl
theorem idxLive_i (xs : List HoldT) (now : Int) (hs : xs.length ≤ 1048576) : g156 xs (now, ()) = some ((), ((findI (fun y => !liveM now y) 0 xs, ()), ())) := by
 have hbig : big = 140737488355328 := rfl
 unfold g156
 have h := loop_list (step := fun (z : (List HoldT) × ((Int × Unit) × Unit) × Int × Int × Unit) => r156_0 z.1 z.2.1 z.2.2.1 z.2.2.2.1) xs (fun i (_ : Unit) => (xs, ((now, ()), ()), lenI xs, ((i : Nat) : Int), ())) (fun i y _ => bif !liveM now y then Sum.inr (.inr ((i : Int), ())) else Sum.inl ()) (fun _ => .inl (xs, ((now, ()), ()), lenI xs, (xs.length : Int), ())) (a0 := ()) (fun i y u hy => by
  have hlt := lt_of_get hy
  show r156_0 xs ((now, ()), ()) (lenI xs) (i : Int) = _
  unfold r156_0 g172 g173 liveM
  rw [ltI_in hy, inB_in hy, gt_in _ hy, addW1 (by omega)]
  dsimp only [cond_true, Option.bind_some]
  cases ltI now y.2.2.1 <;> rfl) (fun u => by
  show r156_0 xs ((now, ()), ()) (lenI xs) (xs.length : Int) = _
  unfold r156_0
  rw [ltI_out rfl]; rfl)
 have h' : l156_0 xs ((now, ()), ()) (lenI xs) 0 = _ := h
 rw [h']
 have hf := goL_find (Y := Sum ((List HoldT) × ((Int × Unit) × Unit) × Int × Int × Unit) (Int × Unit)) (fun (y : HoldT) => !liveM now y) (fun n => .inr (n, ())) (.inl (xs, ((now, ()), ()), lenI xs, (xs.length : Int), ())) (fun y => match y with | .inl _ => -1 | .inr z => z.1) (fun _ => rfl) rfl xs 0
 rw [← hf]
 dsimp only [Option.bind_some]
 cases goL _ _ 0 xs () <;> rfl
theorem findI_none {α : Type} (p : α → Bool) : ∀ (xs : List α) (k : Nat), findI p k xs = -1 → xs.filter (fun y => !p y) = xs
 | [], _, _ => rfl
 | x :: r, k, h => by
   rw [findI] at h
   cases hp : p x with
   | true => rw [hp] at h; simp only [cond_true] at h; omega
   | false =>
     rw [hp] at h
     simp only [cond_false] at h
     rw [List.filter_cons_of_pos (by simp [hp]), findI_none p r (k + 1) h]
theorem findI_some {α : Type} (p : α → Bool) : ∀ (xs : List α) (k : Nat), findI p k xs ≠ -1 → ∃ i x, findI p k xs = ((k + i : Nat) : Int) ∧ xs[i]? = some x ∧ p x = true ∧ (xs.take i).filter (fun y => !p y) = xs.take i
 | [], _, h => absurd rfl h
 | x :: r, k, h => by
   rw [findI] at h ⊢
   cases hp : p x with
   | true => exact ⟨0, x, by simp, rfl, hp, rfl⟩
   | false =>
     rw [hp] at h
     simp only [cond_false] at h ⊢
     obtain ⟨i, y, h1, h2, h3, h4⟩ := findI_some p r (k + 1) h
     refine ⟨i + 1, y, by rw [h1]; omega, by simpa using h2, h3, ?_⟩
     rw [List.take_succ_cons, List.filter_cons_of_pos (by simp [hp]), h4]
theorem set_len {α : Type} {done : List α} {x y : α} {r : List α} {i : Nat} (h : done.length = i) : (done ++ x :: r).set i y = done ++ y :: r := by
 subst h; simp [List.set_append]
theorem delete_i (xs : List HoldT) (now : Int) (hs : xs.length ≤ 1048576) : g162 xs (now, ()) = some ((), ((xs.filter (liveM now), ()), ())) := by
 have hbig : big = 140737488355328 := rfl
 have hnn : (fun y : HoldT => !(!liveM now y)) = liveM now := by funext y; simp
 unfold g162
 rw [idxLive_i xs now hs]
 dsimp only [Option.bind_some]
 by_cases hf : findI (fun y => !liveM now y) 0 xs = -1
 · have := findI_none _ _ _ hf
   rw [hnn] at this
   rw [hf, this]; rfl
 · obtain ⟨k, x0, h1, h2, h3, h4⟩ := findI_some _ _ _ hf
   rw [hnn] at h4
   rw [Nat.zero_add] at h1
   have hk := lt_of_get h2
   have he : eqI (k : Int) (-1) = false := by unfold eqI; rw [beq_eq_false_iff_ne]; omega
   rw [h1, he, addW1 (by omega)]
   dsimp only [cond_false]
   obtain ⟨⟨cur, i⟩, hI, hl⟩ := loop_post (step := fun (z : (List HoldT) × ((Int × Unit) × Unit) × Int × Int × Unit) => r162_0 z.1 z.2.1 z.2.2.1 z.2.2.2.1) xs (fun j (a : List HoldT × Nat) => (a.1, ((now, ()), ()), (a.2 : Int), ((j : Nat) : Int), ())) (fun a => .inl (a.1, ((now, ()), ()), (a.2 : Int), (xs.length : Int), ())) (fun j a => a.1.length = xs.length ∧ a.2 < j ∧ a.1.take a.2 = (xs.take j).filter (liveM now) ∧ a.1.drop j = xs.drop j) (fun j x a hx ha => by
    obtain ⟨cur, i⟩ := a
    obtain ⟨ha1, ha2, ha3, ha4⟩ := ha
    simp only at ha1 ha2 ha3 ha4
    have hlt := lt_of_get hx
    have hcx : cur[j]? = some x := by
     have e1 : (cur.drop j)[0]? = some x := by rw [ha4, List.getElem?_drop, Nat.add_zero]; exact hx
     rw [List.getElem?_drop, Nat.add_zero] at e1
     exact e1
    have hdr : cur.drop (j + 1) = xs.drop (j + 1) := by
     have := congrArg List.tail ha4
     simpa using this
    have hst : r162_0 cur ((now, ()), ()) (i : Int) (j : Int) = some (.inl (bif liveM now x then (cur.set i x, ((now, ()), ()), ((i + 1 : Nat) : Int), ((j + 1 : Nat) : Int), ()) else (cur, ((now, ()), ()), (i : Int), ((j + 1 : Nat) : Int), ()))) := by
     unfold r162_0 g172 g173 liveM
     have hi : i < cur.length := by omega
     have hsp : cur = cur.take i ++ cur[i] :: cur.drop (i + 1) := by
      rw [← List.drop_eq_getElem_cons hi, List.take_append_drop]
     have htl : (cur.take i).length = i := by rw [List.length_take]; omega
     rw [ltI_in hcx, inB_in hcx, gt_in _ hcx, inB_lt hi, addW1 (show j ≤ big by omega), addW1 (show i ≤ big by omega)]
     dsimp only [cond_true, Option.bind_some]
     cases ltI now x.2.2.1 with
     | false => rfl
     | true =>
       dsimp only [cond_true, cond_false, Bool.not_true, Bool.not_false]
       generalize hci : cur[i] = ci at hsp
       generalize hD : cur.drop (i + 1) = D at hsp
       generalize hT : cur.take i = T at hsp htl
       rw [hsp]
       simp only [gt_mid _ htl, stI_mid htl, set_len htl]
       rfl
    cases hlv : liveM now x with
    | true =>
      rw [hlv] at hst
      refine ⟨(cur.set i x, i + 1), hst, by simp [ha1], by omega, ?_, ?_⟩
      · show (cur.set i x).take (i + 1) = _
        have hi : i < cur.length := by omega
        rw [List.take_add_one, List.getElem?_set_self hi, List.take_set_of_le (Nat.le_refl _), ha3, List.take_add_one, hx]
        simp [List.filter_append, hlv]
      · show (cur.set i x).drop (j + 1) = _
        rw [List.drop_set_of_lt (by omega), hdr]
    | false =>
      rw [hlv] at hst
      refine ⟨(cur, i), hst, ha1, by omega, ?_, hdr⟩
      show cur.take i = _
      rw [ha3, List.take_add_one, hx]
      simp [List.filter_append, hlv]) (fun a ha => by
    show r162_0 a.1 ((now, ()), ()) (a.2 : Int) (xs.length : Int) = _
    unfold r162_0
    rw [ltI_out ha.1]; rfl) (xs.length - (k + 1)) (k + 1) (xs, k) (by omega) ⟨rfl, by omega, by
    show xs.take k = _
    have hx0 : liveM now x0 = false := by simpa using h3
    rw [List.take_add_one, h2, List.filter_append, h4]
    simp [hx0], rfl⟩
   obtain ⟨i1, i2, i3, _⟩ := hI
   simp only at i1 i2 i3
   have hl' : l162_0 xs ((now, ()), ()) (k : Int) ((k + 1 : Nat) : Int) = some (.inl (cur, ((now, ()), ()), (i : Int), (xs.length : Int), ())) := hl
   rw [hl']
   dsimp only [Option.bind_some, Sum.elim_inl]
   have c1 : cutB (i : Int) (lenI cur) cur = true := by
    unfold cutB cutOk leI lenI
    rw [decide_eq_true (by omega), decide_eq_true (by omega), decide_eq_true (by omega)]; rfl
   have c0 : (clrI ([], 0, 0, ()) cur (i : Int)) = cur.take i ++ List.replicate (cur.length - i) ([], 0, 0, ()) := by unfold clrI clr; simp
   have c3 : tkI (clrI d108 cur (i : Int)) (i : Int) = cur.take i := by
    show tkI (clrI ([], 0, 0, ()) cur (i : Int)) (i : Int) = _
    rw [c0]; unfold tkI
    have : (cur.take i).length = i := by rw [List.length_take]; omega
    simp only [Int.toNat_natCast]
    rw [List.take_append_of_le_length (by omega), List.take_of_length_le (by omega)]
   have c2 : cutB 0 (i : Int) (clrI d108 cur (i : Int)) = true := by
    show cutB 0 (i : Int) (clrI ([], 0, 0, ()) cur (i : Int)) = true
    rw [c0]; exact cutB_take (by simp; omega)
   rw [c1]
   dsimp only [cond_true]
   rw [c2, c3, i3, List.take_length]; rfl
theorem live_i (xs : List HoldT) (now : Int) (hs : xs.length ≤ 1048576) : g132 xs now = some ((), ((xs.filter (liveM now), ()), ())) := by
 have hbig : big = 140737488355328 := rfl
 unfold g132 g153
 rw [fitB_nil (by omega)]
 dsimp only [cond_true, Option.bind_some]
 rw [delete_i xs now hs]; rfl
def sweptM (a : AcctT) (now : Int) : AcctT := cond (acctM a) (cond (timeM now) (a.1, a.2.1, a.2.2.1, a.2.2.2.1, a.2.2.2.2.1, a.2.2.2.2.2.1.filter (liveM now), a.2.2.2.2.2.2.1, a.2.2.2.2.2.2.2.1, a.2.2.2.2.2.2.2.2.1, a.2.2.2.2.2.2.2.2.2.1, a.2.2.2.2.2.2.2.2.2.2.1, ()) a) a
theorem swept_s (a : AcctT) (now : Int) (hb : AcctB a) : g143 a now = some ((), (sweptM a now, ())) := by
 unfold g143 sweptM
 rw [acctCp_s a hb, acct_s a hb, time_s, live_s _ now hb.2.1.1]
 dsimp only [Option.bind_some]
 cases acctM a <;> cases timeM now <;> rfl
theorem swept_i (a : AcctT) (now : Int) (hb : AcctB a) : g74 a now = some ((), (sweptM a now, ())) := by
 unfold g74 sweptM
 rw [acctCp_i a hb, acct_i a hb, time_i, live_i _ now hb.2.1.1]
 dsimp only [Option.bind_some]
 cases acctM a <;> cases timeM now <;> rfl
theorem swept_b {a : AcctT} (now : Int) (hb : AcctB a) : AcctB (sweptM a now) := by
 unfold sweptM
 cases acctM a with
 | false => exact hb
 | true =>
   cases timeM now with
   | false => exact hb
   | true =>
     obtain ⟨h1, ⟨h2, h3⟩, h4, h5, h6⟩ := hb
     exact ⟨h1, ⟨Nat.le_trans (List.length_filter_le _ _) h2, fun y hy => h3 y (List.mem_filter.1 hy).1⟩, h4, h5, h6⟩
def holdAtM (xs : List HoldT) (id : List UInt8) : Int := findI (fun y => eqS y.1 id) 0 xs
theorem holdAt_s (xs : List HoldT) (id : List UInt8) (hs : xs.length ≤ 1048576) : g144 xs id = some ((), ((holdAtM xs id, ()), ())) := by
 have hbig : big = 140737488355328 := rfl
 unfold g144 holdAtM
 have h := loop_list (step := fun (z : (List UInt8) × (List HoldT) × Int × Int × Unit) => r144_0 z.1 z.2.1 z.2.2.1 z.2.2.2.1) xs (fun i (_ : Unit) => (id, xs, lenI xs, ((i : Nat) : Int), ())) (fun i y _ => bif eqS y.1 id then Sum.inr (.inr ((i : Int), ())) else Sum.inl ()) (fun _ => .inl (id, xs, lenI xs, (xs.length : Int), ())) (a0 := ()) (fun i y u hy => by
  have hlt := lt_of_get hy
  show r144_0 id xs (lenI xs) (i : Int) = _
  unfold r144_0
  rw [ltI_in hy, inB_in hy, gt_in _ hy, addW1 (by omega)]
  dsimp only [cond_true]
  cases eqS y.1 id <;> rfl) (fun u => by
  show r144_0 id xs (lenI xs) (xs.length : Int) = _
  unfold r144_0
  rw [ltI_out rfl]; rfl)
 have h' : l144_0 id xs (lenI xs) 0 = _ := h
 rw [h']
 have hf := goL_find (Y := Sum ((List UInt8) × (List HoldT) × Int × Int × Unit) (Int × Unit)) (fun (y : HoldT) => eqS y.1 id) (fun n => .inr (n, ())) (.inl (id, xs, lenI xs, (xs.length : Int), ())) (fun y => match y with | .inl _ => -1 | .inr z => z.1) (fun _ => rfl) rfl xs 0
 rw [← hf]
 dsimp only [Option.bind_some]
 cases goL _ _ 0 xs () <;> rfl
theorem holdAt_i (xs : List HoldT) (id : List UInt8) (hs : xs.length ≤ 1048576) : g105 xs id = some ((), ((holdAtM xs id, ()), ())) := by
 have hbig : big = 140737488355328 := rfl
 unfold g105 g156v1 holdAtM
 have h := loop_list (step := fun (z : (List HoldT) × (((List UInt8) × Unit) × Unit) × Int × Int × Unit) => r156v1_0 z.1 z.2.1 z.2.2.1 z.2.2.2.1) xs (fun i (_ : Unit) => (xs, ((id, ()), ()), lenI xs, ((i : Nat) : Int), ())) (fun i y _ => bif eqS y.1 id then Sum.inr (.inr ((i : Int), ())) else Sum.inl ()) (fun _ => .inl (xs, ((id, ()), ()), lenI xs, (xs.length : Int), ())) (a0 := ()) (fun i y u hy => by
  have hlt := lt_of_get hy
  show r156v1_0 xs ((id, ()), ()) (lenI xs) (i : Int) = _
  unfold r156v1_0 g157
  rw [ltI_in hy, inB_in hy, gt_in _ hy, addW1 (by omega)]
  dsimp only [cond_true, Option.bind_some]
  cases eqS y.1 id <;> rfl) (fun u => by
  show r156v1_0 xs ((id, ()), ()) (lenI xs) (xs.length : Int) = _
  unfold r156v1_0
  rw [ltI_out rfl]; rfl)
 have h' : l156v1_0 xs ((id, ()), ()) (lenI xs) 0 = _ := h
 rw [h']
 have hf := goL_find (Y := Sum ((List HoldT) × (((List UInt8) × Unit) × Unit) × Int × Int × Unit) (Int × Unit)) (fun (y : HoldT) => eqS y.1 id) (fun n => .inr (n, ())) (.inl (xs, ((id, ()), ()), lenI xs, (xs.length : Int), ())) (fun y => match y with | .inl _ => -1 | .inr z => z.1) (fun _ => rfl) rfl xs 0
 rw [← hf]
 dsimp only [Option.bind_some]
 cases goL _ _ 0 xs () <;> rfl
def liveSumM (xs : List HoldT) (now : Int) : Int := storedM (xs.filter (liveM now))
theorem liveSum_s (xs : List HoldT) (now : Int) (hs : xs.length ≤ 1048576) : g69 xs now = some ((), ((liveSumM xs now, ()), ())) := by
 unfold g69
 rw [live_s xs now hs]
 dsimp only [Option.bind_some]
 rw [stored_s _ (le_big (Nat.le_trans (List.length_filter_le _ _) hs))]; rfl
theorem liveSum_i (xs : List HoldT) (now : Int) (hs : xs.length ≤ 1048576) : g78 xs now = some ((), ((liveSumM xs now, ()), ())) := by
 unfold g78
 rw [live_i xs now hs]
 dsimp only [Option.bind_some]
 rw [stored_i _ (le_big (Nat.le_trans (List.length_filter_le _ _) hs))]; rfl
def roomM (a : AcctT) (now : Int) : Int := cond (acctM a) (cond (timeM now) (subW .i64 (subW .i64 a.2.1 a.2.2.1) (liveSumM a.2.2.2.2.2.1 now)) 0) 0
theorem room_s (a : AcctT) (now : Int) (hb : AcctB a) : g25 a now = some ((), ((roomM a now, ()), ())) := by
 unfold g25 roomM
 rw [acct_s a hb, time_s, liveSum_s _ now hb.2.1.1]
 dsimp only [Option.bind_some]
 cases acctM a <;> cases timeM now <;> rfl
theorem room_i (a : AcctT) (now : Int) (hb : AcctB a) : g31 a now = some ((), ((roomM a now, ()), ())) := by
 unfold g31 roomM
 rw [acct_i a hb, time_i, liveSum_i _ now hb.2.1.1]
 dsimp only [Option.bind_some]
 cases acctM a <;> cases timeM now <;> rfl
def shE (n : Int) (xs : List (Int × Unit)) (j : Nat) : Int × Unit := cond (leI n (j : Int)) (gt (0, ()) xs ((j : Int) - n)) (0, ())
def shiftM (n : Int) (xs : List (Int × Unit)) : List (Int × Unit) := (List.range xs.length).map (shE n xs)
theorem shiftM_len (n : Int) (xs : List (Int × Unit)) : (shiftM n xs).length = xs.length := by simp [shiftM]
theorem shiftM_get {n : Int} {xs : List (Int × Unit)} {j : Nat} (h : j < xs.length) : (shiftM n xs)[j]? = some (shE n xs j) := by simp [shiftM, h]
theorem take_snoc {α : Type} {xs : List α} {i : Nat} {x : α} (h : xs[i]? = some x) : xs.take (i + 1) = xs.take i ++ [x] := by rw [List.take_add_one, h]; rfl
theorem shifted_i (n : Int) (xs : List (Int × Unit)) (hs : xs.length ≤ 1048576) (hn : 0 ≤ n ∧ n ≤ 1000000000) : g190 xs n = some ((), ((shiftM n xs, ()), ())) := by
 have hbig : big = 140737488355328 := rfl
 unfold g190
 dsimp only
 rw [mkB_in (by decide) (by omega), repI_len]
 obtain ⟨u, _, hl⟩ := loop_post (A := Unit) (step := fun (z : (List (Int × Unit)) × Int × (List (Int × Unit)) × Int × Int × Unit) => r190_0 z.1 z.2.1 z.2.2.1 z.2.2.2.1 z.2.2.2.2.1) xs (fun j _ => (xs, n, (shiftM n xs).take j ++ List.replicate (xs.length - j) (0, ()), lenI xs, ((j : Nat) : Int), ())) (fun _ => .inl (xs, n, shiftM n xs, lenI xs, (xs.length : Int), ())) (fun _ _ => True) (fun j x a hx _ => by
  have hlt := lt_of_get hx
  have hsh := shiftM_get (n := n) hlt
  have htl : ((shiftM n xs).take j).length = j := by rw [List.length_take, shiftM_len]; omega
  refine ⟨(), ?_, trivial⟩
  show r190_0 xs n ((shiftM n xs).take j ++ List.replicate (xs.length - j) (0, ())) (lenI xs) (j : Int) = some (.inl (xs, n, (shiftM n xs).take (j + 1) ++ List.replicate (xs.length - (j + 1)) (0, ()), lenI xs, ((j + 1 : Nat) : Int), ()))
  obtain ⟨q, hq⟩ : ∃ q, xs.length - j = q + 1 := ⟨xs.length - j - 1, by omega⟩
  have hq' : xs.length - (j + 1) = q := by omega
  rw [hq, hq', List.replicate_succ, take_snoc hsh]
  unfold r190_0 shE
  rw [ltI_in hx, inB_mid htl, addW1 (by omega)]
  dsimp only [cond_true]
  by_cases hle : n ≤ (j : Int)
  · have e1 : leI n (j : Int) = true := decide_eq_true hle
    have e2 : inB ((j : Int) - n) xs = true := by
     have e : (j : Int) - n = (((j : Int) - n).toNat : Int) := by omega
     rw [e]; exact inB_lt (by omega)
    rw [e1, subW_in (by omega) (by omega), e2]
    dsimp only [cond_true]
    rw [stI_mid htl, List.append_assoc]; rfl
  · have e1 : leI n (j : Int) = false := decide_eq_false hle
    rw [e1]
    dsimp only [cond_false]
    rw [List.append_assoc]; rfl) (fun a _ => by
  show r190_0 xs n ((shiftM n xs).take xs.length ++ List.replicate (xs.length - xs.length) (0, ())) (lenI xs) (xs.length : Int) = _
  unfold r190_0
  rw [ltI_out rfl, Nat.sub_self, List.replicate_zero, List.append_nil, List.take_of_length_le (by rw [shiftM_len]; exact Nat.le_refl _)]; rfl) xs.length 0 () (by omega) trivial
 have hl' : l190_0 xs n (List.replicate xs.length (0, ())) (lenI xs) 0 = _ := hl
 rw [show (List.replicate xs.length d3) = List.replicate xs.length (0, ()) from rfl, hl']; rfl
def rollM (r : RingT) (now : Int) : RingT := cond (ringM r) (cond (timeM now) (cond (leI (now / r.1) r.2.1) r (r.1, now / r.1, shiftM (now / r.1 - r.2.1) r.2.2.1, shiftM (now / r.1 - r.2.1) r.2.2.2.1, ())) r) r
theorem eqI_no {a b : Int} (h : a ≠ b) : eqI a b = false := by unfold eqI; rw [beq_eq_false_iff_ne]; exact h
theorem quo_in {now s : Int} (h : 0 ≤ now ∧ now ≤ 1000000000) (h2 : 1 ≤ s) : quoW .i64 now s = now / s ∧ 0 ≤ now / s ∧ now / s ≤ 1000000000 := by
 have h3 : 0 ≤ now / s := Int.ediv_nonneg h.1 (by omega)
 have h4 : now / s ≤ now := Int.ediv_le_self _ h.1
 refine ⟨?_, h3, by omega⟩
 unfold quoW
 rw [Int.tdiv_eq_ediv_of_nonneg h.1]
 exact IntWalk.i64_in _ (by omega)
theorem roll_i (r : RingT) (now : Int) (hb : RingB r) : g161 r now = some ((), (rollM r now, ())) := by
 unfold g161 rollM
 rw [ringCp_i r hb, ring_i r hb, time_i]
 dsimp only [Option.bind_some]
 cases hr : ringM r with
 | false => rfl
 | true =>
 cases ht : timeM now with
 | false => rfl
 | true =>
 obtain ⟨s1, s2, s3, s4⟩ := ringM_spec hr
 have tn := inM_iff.1 ht
 obtain ⟨q1, q2, q3⟩ := quo_in tn s1.1
 dsimp only [cond_true, cond_false, Bool.not_true]
 rw [eqI_no (show r.1 ≠ 0 by omega), q1]
 try dsimp only [cond_true, cond_false, Bool.not_true, Bool.not_false]
 by_cases hle : now / r.1 ≤ r.2.1
 · rw [show leI (now / r.1) r.2.1 = true from decide_eq_true hle]; rfl
 · rw [show leI (now / r.1) r.2.1 = false from decide_eq_false hle]
   dsimp only [cond_true, cond_false, Bool.not_true]
   rw [subW_in (by omega) (by omega), shifted_i _ _ hb.1 (by omega), shifted_i _ _ hb.2 (by omega)]; rfl
theorem roll_s (r : RingT) (now : Int) (hb : RingB r) : g182 r now = some ((), (rollM r now, ())) := by
 have hbig : big = 140737488355328 := rfl
 unfold g182 rollM
 rw [ringCp_s r hb, ring_s r hb, time_s]
 dsimp only [Option.bind_some]
 cases hr : ringM r with
 | false => rfl
 | true =>
 cases ht : timeM now with
 | false => rfl
 | true =>
 obtain ⟨s1, s2, s3, s4⟩ := ringM_spec hr
 have tn := inM_iff.1 ht
 obtain ⟨q1, q2, q3⟩ := quo_in tn s1.1
 dsimp only [cond_true, cond_false, Bool.not_true]
 rw [eqI_no (show r.1 ≠ 0 by omega), q1]
 try dsimp only [cond_true, cond_false, Bool.not_true, Bool.not_false]
 by_cases hle : now / r.1 ≤ r.2.1
 · rw [show leI (now / r.1) r.2.1 = true from decide_eq_true hle]; rfl
 · rw [show leI (now / r.1) r.2.1 = false from decide_eq_false hle]
   dsimp only [cond_true, cond_false, Bool.not_true]
   rw [subW_in (a := now / r.1) (b := r.2.1) (by omega) (by omega)]
   obtain ⟨sp, hd, cs, ss, u⟩ := r
   obtain ⟨⟩ := u
   simp only at s1 s2 s3 s4 q1 q2 q3 hle ⊢
   have hn : 0 ≤ now / sp - hd ∧ now / sp - hd ≤ 1000000000 := by omega
   generalize hnn : now / sp - hd = n at hn ⊢
   obtain ⟨u, _, hl⟩ := loop_post (A := Unit) (step := fun (z : Int × Int × Int × Int × RingT × RingT × RingT × Unit) => r182_0 z.1 z.2.1 z.2.2.1 z.2.2.2.1 z.2.2.2.2.1 z.2.2.2.2.2.1 z.2.2.2.2.2.2.1) cs (fun j _ => (now, n, lenI cs, ((j : Nat) : Int), (sp, hd, cs, ss, ()), (0, 0, [], [], ()), (sp, hd, (shiftM n cs).take j ++ cs.drop j, (shiftM n ss).take j ++ ss.drop j, ()), ())) (fun _ => .inl (now, n, lenI cs, (cs.length : Int), (sp, hd, cs, ss, ()), (0, 0, [], [], ()), (sp, hd, shiftM n cs, shiftM n ss, ()), ())) (fun _ _ => True) (fun j x a hx _ => by
    have hlt := lt_of_get hx
    obtain ⟨y, hy⟩ : ∃ y, ss[j]? = some y := ⟨ss[j]'(by omega), List.getElem?_eq_getElem (by omega)⟩
    have hsh := shiftM_get (n := n) hlt
    have hsh2 := shiftM_get (n := n) (lt_of_get hy)
    have htl : ((shiftM n cs).take j).length = j := by rw [List.length_take, shiftM_len]; omega
    have htl2 : ((shiftM n ss).take j).length = j := by rw [List.length_take, shiftM_len]; omega
    refine ⟨(), ?_, trivial⟩
    show r182_0 now n (lenI cs) (j : Int) (sp, hd, cs, ss, ()) (0, 0, [], [], ()) (sp, hd, (shiftM n cs).take j ++ cs.drop j, (shiftM n ss).take j ++ ss.drop j, ()) = some (.inl (now, n, lenI cs, ((j + 1 : Nat) : Int), (sp, hd, cs, ss, ()), (0, 0, [], [], ()), (sp, hd, (shiftM n cs).take (j + 1) ++ cs.drop (j + 1), (shiftM n ss).take (j + 1) ++ ss.drop (j + 1), ()), ()))
    rw [drop_get hx, drop_get hy, take_snoc hsh, take_snoc hsh2]
    unfold r182_0 shE
    dsimp only
    rw [ltI_in hx, inB_mid htl, inB_mid htl2, addW1 (by omega), stI_mid htl, stI_mid htl2]
    dsimp only [cond_true]
    by_cases hle : n ≤ (j : Int)
    · have e1 : leI n (j : Int) = true := decide_eq_true hle
      have e : (j : Int) - n = (((j : Int) - n).toNat : Int) := by omega
      have e2 : inB ((j : Int) - n) cs = true := by rw [e]; exact inB_lt (by omega)
      have e3 : inB ((j : Int) - n) ss = true := by rw [e]; exact inB_lt (by omega)
      rw [e1, subW_in (by omega) (by omega), e2, e3]
      dsimp only [cond_true]
      rw [inB_mid htl, inB_mid htl2, stI_mid htl, stI_mid htl2, List.append_assoc, List.append_assoc]; rfl
    · have e1 : leI n (j : Int) = false := decide_eq_false hle
      rw [e1]
      dsimp only [cond_false]
      rw [List.append_assoc, List.append_assoc]; rfl) (fun a _ => by
    show r182_0 now n (lenI cs) (cs.length : Int) (sp, hd, cs, ss, ()) (0, 0, [], [], ()) (sp, hd, (shiftM n cs).take cs.length ++ cs.drop cs.length, (shiftM n ss).take cs.length ++ ss.drop cs.length, ()) = _
    unfold r182_0
    rw [ltI_out rfl, List.drop_length, ← s3, List.drop_length, List.append_nil, List.append_nil, List.take_of_length_le (by rw [shiftM_len]; omega), List.take_of_length_le (by rw [shiftM_len]; omega)]; rfl) cs.length 0 () (by omega) trivial
   have hl' : l182_0 now n (lenI cs) 0 (sp, hd, cs, ss, ()) (0, 0, [], [], ()) (sp, hd, cs, ss, ()) = _ := hl
   rw [hl']
   dsimp only [Option.bind_some, Sum.elim_inl]
   rw [eqI_no (show sp ≠ 0 by omega), q1]; rfl
theorem roll_b {r : RingT} (now : Int) (hb : RingB r) : RingB (rollM r now) := by
 unfold rollM
 cases ringM r with
 | false => exact hb
 | true =>
   cases timeM now with
   | false => exact hb
   | true =>
     cases leI (now / r.1) r.2.1 with
     | true => exact hb
     | false => exact ⟨by show (shiftM _ _).length ≤ _; rw [shiftM_len]; exact hb.1, by show (shiftM _ _).length ≤ _; rw [shiftM_len]; exact hb.2⟩
theorem roll_len (r : RingT) (now : Int) : (rollM r now).2.2.1.length = r.2.2.1.length ∧ (rollM r now).2.2.2.1.length = r.2.2.2.1.length := by
 unfold rollM
 cases ringM r <;> cases timeM now <;> cases leI (now / r.1) r.2.1 <;> first | exact ⟨rfl, rfl⟩ | exact ⟨shiftM_len _ _, shiftM_len _ _⟩
def totalM (xs : List (Int × Unit)) : Int := xs.foldl (fun a x => satM a x.1) 0
theorem total_i (xs : List (Int × Unit)) (hs : xs.length ≤ 1048576) : g187 xs = some ((), ((totalM xs, ()), ())) := by
 have hbig : big = 140737488355328 := rfl
 unfold g187
 have h := loop_list (step := fun (x : Int × (List (Int × Unit)) × Int × Int × Unit) => r187_0 x.1 x.2.1 x.2.2.1 x.2.2.2.1) xs (fun i (a : Int) => (a, xs, lenI xs, ((i : Nat) : Int), ())) (fun _ x a => Sum.inl (satM a x.1)) (fun a => .inl (a, xs, lenI xs, (xs.length : Int), ())) (a0 := 0) (fun i x a hx => by
  have hlt := lt_of_get hx
  show r187_0 a xs (lenI xs) (i : Int) = _
  unfold r187_0
  rw [ltI_in hx, inB_in hx, gt_in _ hx, addW1 (by omega), sat_i]; rfl) (fun a => by
  show r187_0 a xs (lenI xs) (xs.length : Int) = _
  unfold r187_0
  rw [ltI_out rfl]; rfl)
 rw [goL_fold (fun (x : Int × Unit) a => satM a x.1)] at h
 have h' : l187_0 0 xs (lenI xs) 0 = _ := h
 rw [h']; rfl
def cntM (r : RingT) (now : Int) (sums : Bool) : Int := cond (ringM r) (cond (timeM now) (totalM (cond sums (rollM r now).2.2.2.1 (rollM r now).2.2.1)) 0) 0
theorem total_s (r : RingT) (now : Int) (b : Bool) (hb : RingB r) : g200 r now b = some ((), ((cntM r now b, ()), ())) := by
 have hbig : big = 140737488355328 := rfl
 unfold g200 cntM
 rw [ring_s r hb, time_s, roll_s r now hb]
 dsimp only [Option.bind_some]
 cases hr : ringM r with
 | false => rfl
 | true =>
 cases ht : timeM now with
 | false => rfl
 | true =>
 dsimp only [cond_true, cond_false, Bool.not_true]
 obtain ⟨s1, s2, s3, s4⟩ := ringM_spec hr
 have hlen := roll_len r now
 have hrb := roll_b now hb
 generalize rollM r now = q at hlen hrb ⊢
 obtain ⟨l1, l2⟩ := hlen
 obtain ⟨hb1, hb2⟩ := hrb
 have hq : q.2.2.2.1.length = q.2.2.1.length := by omega
 cases b with
 | false =>
   have h := loop_list (step := fun (x : Bool × Int × Int × Int × RingT × Unit) => r200_0 x.1 x.2.1 x.2.2.1 x.2.2.2.1 x.2.2.2.2.1) q.2.2.1 (fun i (a : Int) => (false, a, lenI q.2.2.1, ((i : Nat) : Int), q, ())) (fun _ x a => Sum.inl (satM a x.1)) (fun a => .inl (false, a, lenI q.2.2.1, (q.2.2.1.length : Int), q, ())) (a0 := 0) (fun i x a hx => by
    have hlt := lt_of_get hx
    show r200_0 false a (lenI q.2.2.1) (i : Int) q = _
    unfold r200_0
    rw [ltI_in hx, inB_in hx, gt_in _ hx, addW1 (by omega)]
    dsimp only [cond_true, cond_false]
    rw [sat_s]; rfl) (fun a => by
    show r200_0 false a (lenI q.2.2.1) (q.2.2.1.length : Int) q = _
    unfold r200_0
    rw [ltI_out rfl]; rfl)
   rw [goL_fold (fun (x : Int × Unit) a => satM a x.1)] at h
   have h' : l200_0 false 0 (lenI q.2.2.1) 0 q = _ := h
   rw [h']; rfl
 | true =>
   have hl : lenI q.2.2.1 = lenI q.2.2.2.1 := by unfold lenI; omega
   rw [hl]
   have h := loop_list (step := fun (x : Bool × Int × Int × Int × RingT × Unit) => r200_0 x.1 x.2.1 x.2.2.1 x.2.2.2.1 x.2.2.2.2.1) q.2.2.2.1 (fun i (a : Int) => (true, a, lenI q.2.2.2.1, ((i : Nat) : Int), q, ())) (fun _ x a => Sum.inl (satM a x.1)) (fun a => .inl (true, a, lenI q.2.2.2.1, (q.2.2.2.1.length : Int), q, ())) (a0 := 0) (fun i x a hx => by
    have hlt := lt_of_get hx
    show r200_0 true a (lenI q.2.2.2.1) (i : Int) q = _
    unfold r200_0
    rw [ltI_in hx, inB_in hx, gt_in _ hx, addW1 (by omega)]
    dsimp only [cond_true, cond_false]
    rw [sat_s]; rfl) (fun a => by
    show r200_0 true a (lenI q.2.2.2.1) (q.2.2.2.1.length : Int) q = _
    unfold r200_0
    rw [ltI_out rfl]; rfl)
   rw [goL_fold (fun (x : Int × Unit) a => satM a x.1)] at h
   have h' : l200_0 true 0 (lenI q.2.2.2.1) 0 q = _ := h
   rw [h']; rfl
theorem count_s (r : RingT) (now : Int) (hb : RingB r) : g180 r now = some ((), ((cntM r now false, ()), ())) := by
 unfold g180; rw [total_s r now false hb]; rfl
theorem sum_s (r : RingT) (now : Int) (hb : RingB r) : g181 r now = some ((), ((cntM r now true, ()), ())) := by
 unfold g181; rw [total_s r now true hb]; rfl
theorem count_i (r : RingT) (now : Int) (hb : RingB r) : g158 r now = some ((), ((cntM r now false, ()), ())) := by
 unfold g158 cntM
 rw [ring_i r hb, time_i, roll_i r now hb]
 dsimp only [Option.bind_some]
 rw [total_i _ (roll_b now hb).1]
 cases ringM r <;> cases timeM now <;> rfl
theorem sum_i (r : RingT) (now : Int) (hb : RingB r) : g159 r now = some ((), ((cntM r now true, ()), ())) := by
 unfold g159 cntM
 rw [ring_i r hb, time_i, roll_i r now hb]
 dsimp only [Option.bind_some]
 rw [total_i _ (roll_b now hb).2]
 cases ringM r <;> cases timeM now <;> rfl
def fitsM (a : AcctT) (amt now : Int) : Int := cond (ltI (roomM a now) amt) 7 (cond (ltI a.2.2.2.1 (satM (cntM (rgOf a) now false) 1)) 8 (cond (ltI a.2.2.2.2.1 (satM (cntM (rgOf a) now true) amt)) 9 0))
theorem fits_s (a : AcctT) (amt now : Int) (hb : AcctB a) : g145 a amt now = some ((), ((fitsM a amt now, ()), ())) := by
 have h1 : g180 (a.2.2.2.2.2.2.1, a.2.2.2.2.2.2.2.1, a.2.2.2.2.2.2.2.2.1, a.2.2.2.2.2.2.2.2.2.1, ()) now = _ := count_s (rgOf a) now hb.2.2.1
 have h2 : g181 (a.2.2.2.2.2.2.1, a.2.2.2.2.2.2.2.1, a.2.2.2.2.2.2.2.2.1, a.2.2.2.2.2.2.2.2.2.1, ()) now = _ := sum_s (rgOf a) now hb.2.2.1
 unfold g145 fitsM
 rw [room_s a now hb, h1, h2]
 dsimp only [Option.bind_some]
 rw [sat_s, sat_s]
 dsimp only [Option.bind_some]
 cases ltI (roomM a now) amt <;> first | rfl | skip
 cases ltI a.2.2.2.1 (satM (cntM (rgOf a) now false) 1) <;> first | rfl | skip
 cases ltI a.2.2.2.2.1 (satM (cntM (rgOf a) now true) amt) <;> rfl
theorem fits_i (a : AcctT) (amt now : Int) (hb : AcctB a) : g106 a amt now = some ((), ((fitsM a amt now, ()), ())) := by
 have h1 : g158 (a.2.2.2.2.2.2.1, a.2.2.2.2.2.2.2.1, a.2.2.2.2.2.2.2.2.1, a.2.2.2.2.2.2.2.2.2.1, ()) now = _ := count_i (rgOf a) now hb.2.2.1
 have h2 : g159 (a.2.2.2.2.2.2.1, a.2.2.2.2.2.2.2.1, a.2.2.2.2.2.2.2.2.1, a.2.2.2.2.2.2.2.2.2.1, ()) now = _ := sum_i (rgOf a) now hb.2.2.1
 unfold g106 fitsM
 rw [room_i a now hb, h1, h2]
 dsimp only [Option.bind_some]
 rw [sat_i, sat_i]
 dsimp only [Option.bind_some]
 cases ltI (roomM a now) amt <;> first | rfl | skip
 cases ltI a.2.2.2.1 (satM (cntM (rgOf a) now false) 1) <;> first | rfl | skip
 cases ltI a.2.2.2.2.1 (satM (cntM (rgOf a) now true) amt) <;> rfl
def ringAddM (r : RingT) (now amt : Int) : RingT := cond (ringM r) (cond (timeM now) (cond (moneyM amt) ((rollM r now).1, (rollM r now).2.1, stI (rollM r now).2.2.1 0 (satM (gt (0, ()) (rollM r now).2.2.1 0).1 1, ()), stI (rollM r now).2.2.2.1 0 (satM (gt (0, ()) (rollM r now).2.2.2.1 0).1 amt, ()), ()) r) r) r
theorem inB_0 {α : Type} {xs : List α} (h : 1 ≤ xs.length) : inB 0 xs = true := inB_lt (i := 0) (by omega)
theorem ringAdd_s (r : RingT) (now amt : Int) (hb : RingB r) : g147 r now amt = some ((), (ringAddM r now amt, ())) := by
 unfold g147 ringAddM
 rw [ring_s r hb, time_s, money_s, ringCp_s r hb, roll_s r now hb]
 dsimp only [Option.bind_some]
 cases hr : ringM r with
 | false => rfl
 | true =>
 cases timeM now with
 | false => rfl
 | true =>
 cases moneyM amt with
 | false => rfl
 | true =>
 obtain ⟨s1, s2, s3, s4⟩ := ringM_spec hr
 have hlen := roll_len r now
 dsimp only [cond_true, cond_false, Bool.not_true]
 rw [inB_0 (by omega), inB_0 (by omega), sat_s, sat_s]; rfl
theorem ringAdd_i (r : RingT) (now amt : Int) (hb : RingB r) : g108 r now amt = some ((), (ringAddM r now amt, ())) := by
 unfold g108 ringAddM
 rw [ring_i r hb, time_i, money_i, ringCp_i r hb, roll_i r now hb]
 dsimp only [Option.bind_some]
 cases hr : ringM r with
 | false => rfl
 | true =>
 cases timeM now with
 | false => rfl
 | true =>
 cases moneyM amt with
 | false => rfl
 | true =>
 obtain ⟨s1, s2, s3, s4⟩ := ringM_spec hr
 have hlen := roll_len r now
 dsimp only [cond_true, cond_false, Bool.not_true]
 rw [inB_0 (by omega), inB_0 (by omega), sat_i, sat_i]; rfl
theorem ringAdd_len (r : RingT) (now amt : Int) : (ringAddM r now amt).2.2.1.length = r.2.2.1.length ∧ (ringAddM r now amt).2.2.2.1.length = r.2.2.2.1.length := by
 unfold ringAddM
 have h := roll_len r now
 cases ringM r <;> cases timeM now <;> cases moneyM amt <;> first | exact ⟨rfl, rfl⟩ | exact ⟨by show (stI _ _ _).length = _; simp only [stI, List.length_set]; exact h.1, by show (stI _ _ _).length = _; simp only [stI, List.length_set]; exact h.2⟩
def acct0 : AcctT := ([], 0, 0, 0, 0, [], 0, 0, [], [], [], ())
theorem holdAt_in {xs : List HoldT} {id : List UInt8} (h : ¬ holdAtM xs id < 0) : inB (holdAtM xs id) xs = true := by
 rcases findI_bd (fun (y : HoldT) => eqS y.1 id) xs 0 with h1 | h1
 · exfalso; apply h; show findI _ 0 xs < 0; omega
 · have e : holdAtM xs id = ((holdAtM xs id).toNat : Int) := by omega
   rw [e]
   have : holdAtM xs id < xs.length := by have := h1.2; simp only [holdAtM]; omega
   exact inB_lt (by omega)
def moreM (a : AcctT) (id : List UInt8) (amt now : Int) : AcctT × Int :=
 cond (cond (acctM a) (cond (timeM now) (holdIdM id) false) false)
  (cond (inM amt 1 9007199254740992)
    (cond (ltI (holdAtM (sweptM a now).2.2.2.2.2.1 id) 0) (acct0, 5)
      (cond (eqI (fitsM (sweptM a now) amt now) 0)
        (((sweptM a now).1, (sweptM a now).2.1, (sweptM a now).2.2.1, (sweptM a now).2.2.2.1, (sweptM a now).2.2.2.2.1,
          stI (sweptM a now).2.2.2.2.2.1 (holdAtM (sweptM a now).2.2.2.2.2.1 id) ((gt ([], 0, 0, ()) (sweptM a now).2.2.2.2.2.1 (holdAtM (sweptM a now).2.2.2.2.2.1 id)).1, addW .i64 (gt ([], 0, 0, ()) (sweptM a now).2.2.2.2.2.1 (holdAtM (sweptM a now).2.2.2.2.2.1 id)).2.1 amt, (gt ([], 0, 0, ()) (sweptM a now).2.2.2.2.2.1 (holdAtM (sweptM a now).2.2.2.2.2.1 id)).2.2.1, ()),
          (ringAddM (rgOf (sweptM a now)) now amt).1, (ringAddM (rgOf (sweptM a now)) now amt).2.1, (ringAddM (rgOf (sweptM a now)) now amt).2.2.1, (ringAddM (rgOf (sweptM a now)) now amt).2.2.2.1, (sweptM a now).2.2.2.2.2.2.2.2.2.2.1, ()), 0)
        (acct0, fitsM (sweptM a now) amt now)))
    (acct0, 4))
  (acct0, 1)
theorem more_s (a : AcctT) (id : List UInt8) (amt now : Int) (hb : AcctB a) (hi : id.length ≤ 1048576) : g89 a id amt now = some ((), ((moreM a id amt now).1, ((moreM a id amt now).2, ()), ())) := by
 have hsb := swept_b now hb
 unfold g89 g142 moreM
 rw [acct_s a hb, time_s, holdId_s id (le_big hi), in_s, swept_s a now hb]
 dsimp only [Option.bind_some]
 generalize sweptM a now = s at hsb ⊢
 have h1 : g147 (s.2.2.2.2.2.2.1, s.2.2.2.2.2.2.2.1, s.2.2.2.2.2.2.2.2.1, s.2.2.2.2.2.2.2.2.2.1, ()) now amt = _ := ringAdd_s (rgOf s) now amt hsb.2.2.1
 rw [holdAt_s _ id hsb.2.1.1, fits_s s amt now hsb]
 dsimp only [Option.bind_some]
 rw [h1]
 cases acctM a <;> first | rfl | skip
 cases timeM now <;> first | rfl | skip
 cases holdIdM id <;> first | rfl | skip
 cases inM amt 1 9007199254740992 <;> first | rfl | skip
 dsimp only [cond_true, cond_false, Bool.not_true, Option.bind_some]
 by_cases hat : holdAtM s.2.2.2.2.2.1 id < 0
 · rw [ltI_yes hat]; rfl
 · rw [ltI_no hat, holdAt_in hat]
   dsimp only [cond_true, cond_false]
   cases eqI (fitsM s amt now) 0 <;> rfl
theorem more_i (a : AcctT) (id : List UInt8) (amt now : Int) (hb : AcctB a) (hi : id.length ≤ 1048576) : g49 a id amt now = some ((), ((moreM a id amt now).1, ((moreM a id amt now).2, ()), ())) := by
 have hsb := swept_b now hb
 unfold g49 g109 g29 moreM
 rw [acct_i a hb, time_i, holdId_i id (le_big hi), in_i, swept_i a now hb]
 dsimp only [Option.bind_some]
 generalize sweptM a now = s at hsb ⊢
 have h1 : g108 (s.2.2.2.2.2.2.1, s.2.2.2.2.2.2.2.1, s.2.2.2.2.2.2.2.2.1, s.2.2.2.2.2.2.2.2.2.1, ()) now amt = _ := ringAdd_i (rgOf s) now amt hsb.2.2.1
 have h2 := holdAt_i s.2.2.2.2.2.1 id hsb.2.1.1
 have h3 := fits_i s amt now hsb
 have h0 := holdAt_i [] id (by decide)
 cases acctM a with
 | false =>
   simp only [cond_true, cond_false, Bool.not_true, Bool.not_false, Option.bind_some]
   rw [h0]; rfl
 | true =>
 cases timeM now with
 | false =>
   simp only [cond_true, cond_false, Bool.not_true, Bool.not_false, Option.bind_some]
   rw [h0]; rfl
 | true =>
 simp only [cond_true, cond_false, Bool.not_true, Bool.not_false, Option.bind_some]
 rw [h2]
 dsimp only [Option.bind_some]
 cases holdIdM id with
 | false => rfl
 | true =>
 cases inM amt 1 9007199254740992 with
 | false => rfl
 | true =>
 by_cases hat : holdAtM s.2.2.2.2.2.1 id < 0
 · rw [ltI_yes hat]; rfl
 · have e00 : eqI 0 0 = true := rfl
   rw [ltI_no hat, e00]
   simp only [cond_true, cond_false, Bool.not_true, Bool.not_false, Option.bind_some]
   rw [h3]
   simp only [cond_true, cond_false, Bool.not_true, Bool.not_false, Option.bind_some]
   rw [h1, holdAt_in hat, e00]
   cases eqI (fitsM s amt now) 0 <;> rfl
theorem less_irr : ∀ s : List UInt8, Op.bytesLess s s = false
 | [] => rfl
 | x :: r => by simp [Op.bytesLess, less_irr r]
theorem less_trans : ∀ s t u : List UInt8, Op.bytesLess s t = true → Op.bytesLess t u = true → Op.bytesLess s u = true
 | [], [], u, h, _ => by simp [Op.bytesLess] at h
 | _ :: _, [], u, h, _ => by simp [Op.bytesLess] at h
 | _, _ :: _, [], _, h => by simp [Op.bytesLess] at h
 | [], _ :: _, _ :: _, _, _ => by simp [Op.bytesLess]
 | x :: r, y :: t, z :: u, h1, h2 => by
   simp only [Op.bytesLess, Bool.or_eq_true, decide_eq_true_eq, Bool.and_eq_true, beq_iff_eq] at h1 h2 ⊢
   rcases h1 with h1 | ⟨rfl, h1⟩
   · rcases h2 with h2 | ⟨rfl, h2⟩
     · exact .inl (UInt8.lt_trans h1 h2)
     · exact .inl h1
   · rcases h2 with h2 | ⟨rfl, h2⟩
     · exact .inl h2
     · exact .inr ⟨rfl, less_trans r t u h1 h2⟩
theorem holdsM_len {xs : List HoldT} (h : holdsM xs = true) : xs.length ≤ 4 := by
 unfold holdsM at h
 cases ha : allI (holdStep xs) 0 xs with
 | false => rw [ha] at h; simp at h
 | true =>
   rw [ha] at h
   have : (lenI xs) ≤ 4 := of_decide_eq_true h
   unfold lenI at this; omega
theorem holdsM_sorted {xs : List HoldT} (h : holdsM xs = true) : xs.Pairwise fun a b => ltS a.1 b.1 = true := by
 unfold holdsM at h
 cases ha : allI (holdStep xs) 0 xs with
 | false => rw [ha] at h; simp at h
 | true =>
   have adj : ∀ i (h1 : i + 1 < xs.length), ltS (xs[i]'(by omega)).1 xs[i + 1].1 = true := fun i h1 => by
    have := allI_get _ ha (i := i + 1) (x := xs[i + 1]) (List.getElem?_eq_getElem h1)
    unfold holdStep at this
    cases hm : holdM xs[i + 1] with
    | false => rw [hm] at this; simp at this
    | true =>
      rw [hm, Nat.zero_add, ltI_yes (show (0 : Int) < ((i + 1 : Nat) : Int) by omega)] at this
      simp only [cond_true] at this
      rw [show ((i + 1 : Nat) : Int) - 1 = ((i : Nat) : Int) by omega, gt_in _ (List.getElem?_eq_getElem (show i < xs.length by omega))] at this
      exact this
   rw [List.pairwise_iff_getElem]
   intro i j hi hj hij
   obtain ⟨d, rfl⟩ : ∃ d, j = i + 1 + d := ⟨j - i - 1, by omega⟩
   induction d with
   | zero => exact adj i hj
   | succ d ih => exact less_trans _ _ _ (ih (by omega) (by omega)) (adj (i + 1 + d) hj)
theorem holdsM_all {xs : List HoldT} (h : holdsM xs = true) : ∀ x ∈ xs, holdM x = true := fun x hx => by
 unfold holdsM at h
 cases ha : allI (holdStep xs) 0 xs with
 | false => rw [ha] at h; simp at h
 | true =>
   obtain ⟨i, hi, e⟩ := List.getElem_of_mem hx
   have := allI_get _ ha (i := i) (x := x) (by rw [List.getElem?_eq_getElem hi, e])
   unfold holdStep at this
   cases hm : holdM x with
   | false => rw [hm] at this; simp at this
   | true => rfl
theorem allI_of {α : Type} (p : Nat → α → Bool) : ∀ (xs : List α) (k : Nat), (∀ i x, xs[i]? = some x → p (k + i) x = true) → allI p k xs = true
 | [], _, _ => rfl
 | x :: r, k, h => by
   unfold allI
   have h0 := h 0 x rfl
   rw [Nat.add_zero] at h0
   rw [h0, allI_of p r (k + 1) fun i y hy => by have := h (i + 1) y hy; rwa [show k + (i + 1) = k + 1 + i by omega] at this]; rfl
theorem holdsM_of {xs : List HoldT} (h1 : ∀ x ∈ xs, holdM x = true) (h2 : xs.Pairwise fun a b => ltS a.1 b.1 = true) (h3 : xs.length ≤ 4) : holdsM xs = true := by
 unfold holdsM
 rw [allI_of _ xs 0 fun i x hx => ?_]
 · simp only [cond_true]; exact decide_eq_true (by unfold lenI; omega)
 · have hi := lt_of_get hx
   have hxx : xs[i] = x := by have := List.getElem?_eq_getElem hi; rw [this] at hx; exact Option.some.inj hx
   unfold holdStep
   rw [h1 x (hxx ▸ List.getElem_mem hi), Nat.zero_add, cond_true]
   cases i with
   | zero => rfl
   | succ i =>
     rw [ltI_yes (show (0 : Int) < ((i + 1 : Nat) : Int) by omega), cond_true, show ((i + 1 : Nat) : Int) - 1 = ((i : Nat) : Int) by omega, gt_in _ (List.getElem?_eq_getElem (show i < xs.length by omega)), ← hxx]
     exact List.pairwise_iff_getElem.1 h2 i (i + 1) (by omega) hi (by omega)
theorem holdsM_filter {xs : List HoldT} (p : HoldT → Bool) (h : holdsM xs = true) : holdsM (xs.filter p) = true :=
 holdsM_of (fun x hx => holdsM_all h x (List.mem_filter.1 hx).1) ((holdsM_sorted h).filter _) (Nat.le_trans (List.length_filter_le _ _) (holdsM_len h))
def keepM (id : List UInt8) (h : HoldT) : Bool := !eqS h.1 id
theorem idxDrop_i (xs : List HoldT) (id : List UInt8) (hs : xs.length ≤ 1048576) : g156v2 xs (id, ()) = some ((), ((findI (fun y => !keepM id y) 0 xs, ()), ())) := by
 have hbig : big = 140737488355328 := rfl
 unfold g156v2
 have h := loop_list (step := fun (z : (List HoldT) × ((List UInt8 × Unit) × Unit) × Int × Int × Unit) => r156v2_0 z.1 z.2.1 z.2.2.1 z.2.2.2.1) xs (fun i (_ : Unit) => (xs, ((id, ()), ()), lenI xs, ((i : Nat) : Int), ())) (fun i y _ => bif !keepM id y then Sum.inr (.inr ((i : Int), ())) else Sum.inl ()) (fun _ => .inl (xs, ((id, ()), ()), lenI xs, (xs.length : Int), ())) (a0 := ()) (fun i y u hy => by
  have hlt := lt_of_get hy
  show r156v2_0 xs ((id, ()), ()) (lenI xs) (i : Int) = _
  unfold r156v2_0 g163 keepM
  rw [ltI_in hy, inB_in hy, gt_in _ hy, addW1 (by omega)]
  dsimp only [cond_true, Option.bind_some]
  cases eqS y.1 id <;> rfl) (fun u => by
  show r156v2_0 xs ((id, ()), ()) (lenI xs) (xs.length : Int) = _
  unfold r156v2_0
  rw [ltI_out rfl]; rfl)
 have h' : l156v2_0 xs ((id, ()), ()) (lenI xs) 0 = _ := h
 rw [h']
 have hf := goL_find (Y := Sum ((List HoldT) × ((List UInt8 × Unit) × Unit) × Int × Int × Unit) (Int × Unit)) (fun (y : HoldT) => !keepM id y) (fun n => .inr (n, ())) (.inl (xs, ((id, ()), ()), lenI xs, (xs.length : Int), ())) (fun y => match y with | .inl _ => -1 | .inr z => z.1) (fun _ => rfl) rfl xs 0
 rw [← hf]
 dsimp only [Option.bind_some]
 cases goL _ _ 0 xs () <;> rfl
theorem deleteDrop_i (xs : List HoldT) (id : List UInt8) (hs : xs.length ≤ 1048576) : g162v1 xs (id, ()) = some ((), ((xs.filter (keepM id), ()), ())) := by
 have hbig : big = 140737488355328 := rfl
 have hnn : (fun y : HoldT => !(!keepM id y)) = keepM id := by funext y; simp
 unfold g162v1
 rw [idxDrop_i xs id hs]
 dsimp only [Option.bind_some]
 by_cases hf : findI (fun y => !keepM id y) 0 xs = -1
 · have := findI_none _ _ _ hf
   rw [hnn] at this
   rw [hf, this]; rfl
 · obtain ⟨k, x0, h1, h2, h3, h4⟩ := findI_some _ _ _ hf
   rw [hnn] at h4
   rw [Nat.zero_add] at h1
   have hk := lt_of_get h2
   have he : eqI (k : Int) (-1) = false := by unfold eqI; rw [beq_eq_false_iff_ne]; omega
   rw [h1, he, addW1 (by omega)]
   dsimp only [cond_false]
   obtain ⟨⟨cur, i⟩, hI, hl⟩ := loop_post (step := fun (z : (List HoldT) × ((List UInt8 × Unit) × Unit) × Int × Int × Unit) => r162v1_0 z.1 z.2.1 z.2.2.1 z.2.2.2.1) xs (fun j (a : List HoldT × Nat) => (a.1, ((id, ()), ()), (a.2 : Int), ((j : Nat) : Int), ())) (fun a => .inl (a.1, ((id, ()), ()), (a.2 : Int), (xs.length : Int), ())) (fun j a => a.1.length = xs.length ∧ a.2 < j ∧ a.1.take a.2 = (xs.take j).filter (keepM id) ∧ a.1.drop j = xs.drop j) (fun j x a hx ha => by
    obtain ⟨cur, i⟩ := a
    obtain ⟨ha1, ha2, ha3, ha4⟩ := ha
    simp only at ha1 ha2 ha3 ha4
    have hlt := lt_of_get hx
    have hcx : cur[j]? = some x := by
     have e1 : (cur.drop j)[0]? = some x := by rw [ha4, List.getElem?_drop, Nat.add_zero]; exact hx
     rw [List.getElem?_drop, Nat.add_zero] at e1
     exact e1
    have hdr : cur.drop (j + 1) = xs.drop (j + 1) := by
     have := congrArg List.tail ha4
     simpa using this
    have hst : r162v1_0 cur ((id, ()), ()) (i : Int) (j : Int) = some (.inl (bif keepM id x then (cur.set i x, ((id, ()), ()), ((i + 1 : Nat) : Int), ((j + 1 : Nat) : Int), ()) else (cur, ((id, ()), ()), (i : Int), ((j + 1 : Nat) : Int), ()))) := by
     unfold r162v1_0 g163 keepM
     have hi : i < cur.length := by omega
     have hsp : cur = cur.take i ++ cur[i] :: cur.drop (i + 1) := by
      rw [← List.drop_eq_getElem_cons hi, List.take_append_drop]
     have htl : (cur.take i).length = i := by rw [List.length_take]; omega
     rw [ltI_in hcx, inB_in hcx, gt_in _ hcx, inB_lt hi, addW1 (show j ≤ big by omega), addW1 (show i ≤ big by omega)]
     dsimp only [cond_true, Option.bind_some]
     cases eqS x.1 id with
     | true => rfl
     | false =>
       try dsimp only [cond_true, cond_false, Bool.not_true, Bool.not_false]
       generalize hci : cur[i] = ci at hsp
       generalize hD : cur.drop (i + 1) = D at hsp
       generalize hT : cur.take i = T at hsp htl
       rw [hsp]
       simp only [gt_mid _ htl, stI_mid htl, set_len htl]
       rfl
    cases hlv : keepM id x with
    | true =>
      rw [hlv] at hst
      refine ⟨(cur.set i x, i + 1), hst, by simp [ha1], by omega, ?_, ?_⟩
      · show (cur.set i x).take (i + 1) = _
        have hi : i < cur.length := by omega
        rw [List.take_add_one, List.getElem?_set_self hi, List.take_set_of_le (Nat.le_refl _), ha3, List.take_add_one, hx]
        simp [List.filter_append, hlv]
      · show (cur.set i x).drop (j + 1) = _
        rw [List.drop_set_of_lt (by omega), hdr]
    | false =>
      rw [hlv] at hst
      refine ⟨(cur, i), hst, ha1, by omega, ?_, hdr⟩
      show cur.take i = _
      rw [ha3, List.take_add_one, hx]
      simp [List.filter_append, hlv]) (fun a ha => by
    show r162v1_0 a.1 ((id, ()), ()) (a.2 : Int) (xs.length : Int) = _
    unfold r162v1_0
    rw [ltI_out ha.1]; rfl) (xs.length - (k + 1)) (k + 1) (xs, k) (by omega) ⟨rfl, by omega, by
    show xs.take k = _
    have hx0 : keepM id x0 = false := by simpa using h3
    rw [List.take_add_one, h2, List.filter_append, h4]
    simp [hx0], rfl⟩
   obtain ⟨i1, i2, i3, _⟩ := hI
   simp only at i1 i2 i3
   have hl' : l162v1_0 xs ((id, ()), ()) (k : Int) ((k + 1 : Nat) : Int) = some (.inl (cur, ((id, ()), ()), (i : Int), (xs.length : Int), ())) := hl
   rw [hl']
   dsimp only [Option.bind_some, Sum.elim_inl]
   have c1 : cutB (i : Int) (lenI cur) cur = true := by
    unfold cutB cutOk leI lenI
    rw [decide_eq_true (by omega), decide_eq_true (by omega), decide_eq_true (by omega)]; rfl
   have c0 : (clrI ([], 0, 0, ()) cur (i : Int)) = cur.take i ++ List.replicate (cur.length - i) ([], 0, 0, ()) := by unfold clrI clr; simp
   have c3 : tkI (clrI d108 cur (i : Int)) (i : Int) = cur.take i := by
    show tkI (clrI ([], 0, 0, ()) cur (i : Int)) (i : Int) = _
    rw [c0]; unfold tkI
    have : (cur.take i).length = i := by rw [List.length_take]; omega
    simp only [Int.toNat_natCast]
    rw [List.take_append_of_le_length (by omega), List.take_of_length_le (by omega)]
   have c2 : cutB 0 (i : Int) (clrI d108 cur (i : Int)) = true := by
    show cutB 0 (i : Int) (clrI ([], 0, 0, ()) cur (i : Int)) = true
    rw [c0]; exact cutB_take (by simp; omega)
   rw [c1]
   dsimp only [cond_true]
   rw [c2, c3, i3, List.take_length]; rfl
theorem drop_i (xs : List HoldT) (id : List UInt8) (hs : xs.length ≤ 1048576) : g110 xs id = some ((), ((xs.filter (keepM id), ()), ())) := by
 have hbig : big = 140737488355328 := rfl
 unfold g110 g153
 rw [fitB_nil (by omega)]
 dsimp only [cond_true, Option.bind_some]
 rw [deleteDrop_i xs id hs]; rfl
def ltH (h x : HoldT) : Bool := ltS x.1 h.1
theorem ltH_keep {h x : HoldT} (hl : ltH h x = true) : keepM h.1 x = true := by
 unfold ltH ltS at hl
 unfold keepM eqS
 by_cases e : x.1 = h.1
 · rw [e, less_irr] at hl; simp at hl
 · simp [e]
def putM (xs : List HoldT) (h : HoldT) : List HoldT := xs.takeWhile (ltH h) ++ h :: (xs.dropWhile (ltH h)).filter (keepM h.1)
def holdPutM (xs : List HoldT) (h : HoldT) : List HoldT × Bool := cond (holdsM xs) (cond (holdsM (putM xs h)) (putM xs h, true) ([], false)) ([], false)
theorem sorted_drop {h : HoldT} : ∀ {xs : List HoldT}, (xs.Pairwise fun a b => ltS a.1 b.1 = true) → (xs.filter (keepM h.1)).takeWhile (ltH h) = xs.takeWhile (ltH h) ∧ (xs.filter (keepM h.1)).dropWhile (ltH h) = (xs.dropWhile (ltH h)).filter (keepM h.1)
 | [], _ => ⟨rfl, rfl⟩
 | x :: r, hp => by
   obtain ⟨h1, h2⟩ := List.pairwise_cons.1 hp
   cases hx : ltH h x with
   | true =>
     obtain ⟨i1, i2⟩ := sorted_drop h2
     rw [List.filter_cons, if_pos (ltH_keep hx), List.takeWhile_cons, List.takeWhile_cons, List.dropWhile_cons, List.dropWhile_cons, hx]
     simp only [if_true]
     exact ⟨by rw [i1], i2⟩
   | false =>
     have hno : ∀ y ∈ (x :: r).filter (keepM h.1), ltH h y = false := fun y hy => by
      rcases List.mem_cons.1 (List.mem_filter.1 hy).1 with e | e
      · subst e; exact hx
      · cases hyl : ltH h y with
        | false => rfl
        | true =>
          have := less_trans _ _ _ (h1 y e) hyl
          unfold ltH ltS at hx
          rw [this] at hx
          simp at hx
     have hF : ∀ F : List HoldT, (∀ y ∈ F, ltH h y = false) → F.takeWhile (ltH h) = [] ∧ F.dropWhile (ltH h) = F := fun F hF => by
      cases F with
      | nil => exact ⟨rfl, rfl⟩
      | cons y F => rw [List.takeWhile_cons, List.dropWhile_cons, hF y (List.mem_cons_self ..)]; exact ⟨rfl, rfl⟩
     obtain ⟨f1, f2⟩ := hF _ hno
     rw [f1, f2, List.takeWhile_cons, List.dropWhile_cons, hx]
     exact ⟨rfl, rfl⟩
def putStep (h x : HoldT) (a : List HoldT × Bool) : List HoldT × Bool := ((cond (cond (!a.2) (!ltH h x) false) (a.1 ++ [h]) a.1) ++ (cond (keepM h.1 x) [x] []), cond (cond (!a.2) (!ltH h x) false) true a.2)
theorem put_done {h : HoldT} : ∀ (xs : List HoldT) (out : List HoldT), xs.foldl (fun a x => putStep h x a) (out, true) = (out ++ xs.filter (keepM h.1), true)
 | [], out => by simp
 | x :: r, out => by
   rw [List.foldl_cons, List.filter_cons]
   have : putStep h x (out, true) = (out ++ (cond (keepM h.1 x) [x] []), true) := rfl
   rw [this, put_done r]
   cases keepM h.1 x <;> simp
theorem put_fold {h : HoldT} : ∀ (xs : List HoldT) (out : List HoldT), xs.foldl (fun a x => putStep h x a) (out, false) = (if xs.all (ltH h) then (out ++ xs, false) else (out ++ putM xs h, true))
 | [], out => by simp
 | x :: r, out => by
   rw [List.foldl_cons, List.all_cons]
   cases hx : ltH h x with
   | true =>
     have : putStep h x (out, false) = (out ++ [x], false) := by unfold putStep; simp only [hx, ltH_keep hx]; rfl
     rw [this, put_fold r]
     have hp : putM (x :: r) h = x :: putM r h := by unfold putM; rw [List.takeWhile_cons, List.dropWhile_cons, hx]; rfl
     rw [hp]
     simp only [Bool.true_and, List.append_assoc, List.singleton_append]
   | false =>
     have : putStep h x (out, false) = (out ++ [h] ++ (cond (keepM h.1 x) [x] []), true) := by unfold putStep; simp only [hx]; rfl
     rw [this, put_done]
     have hp : putM (x :: r) h = h :: (x :: r).filter (keepM h.1) := by unfold putM; rw [List.takeWhile_cons, List.dropWhile_cons, hx]; rfl
     rw [hp, List.filter_cons]
     cases keepM h.1 x <;> simp
theorem putM_all {h : HoldT} {xs : List HoldT} (ha : xs.all (ltH h) = true) : putM xs h = xs ++ [h] := by
 have := List.all_eq_true.1 ha
 have e1 : ∀ ys : List HoldT, (∀ y ∈ ys, ltH h y = true) → ys.takeWhile (ltH h) = ys ∧ ys.dropWhile (ltH h) = [] := by
  intro ys
  induction ys with
  | nil => intro _; exact ⟨rfl, rfl⟩
  | cons y ys ih =>
    intro hy
    obtain ⟨i1, i2⟩ := ih fun z hz => hy z (List.mem_cons_of_mem _ hz)
    rw [List.takeWhile_cons, List.dropWhile_cons, hy y (List.mem_cons_self ..)]
    exact ⟨by simp [i1], by simp [i2]⟩
 obtain ⟨f1, f2⟩ := e1 xs this
 unfold putM
 rw [f1, f2]; rfl
theorem put_len (xs : List HoldT) (h : HoldT) : (putM xs h).length ≤ xs.length + 1 := by
 unfold putM
 have h1 := List.length_filter_le (keepM h.1) (xs.dropWhile (ltH h))
 have h2 : (xs.takeWhile (ltH h)).length + (xs.dropWhile (ltH h)).length = xs.length := by rw [← List.length_append, List.takeWhile_append_dropWhile]
 simp only [List.length_append, List.length_cons]
 omega
theorem put_mem {xs : List HoldT} {h y : HoldT} (hy : y ∈ putM xs h) : y = h ∨ y ∈ xs := by
 unfold putM at hy
 rcases List.mem_append.1 hy with hy | hy
 · exact .inr ((List.takeWhile_prefix _).subset hy)
 · rcases List.mem_cons.1 hy with hy | hy
   · exact .inl hy
   · exact .inr ((List.dropWhile_suffix _).subset (List.mem_filter.1 hy).1)
theorem put_b {xs : List HoldT} {h : HoldT} (hb : HoldsB xs) (hl : xs.length ≤ 1048576) (hh : h.1.length ≤ big) : HoldsB (putM xs h) := by
 have hbig : big = 140737488355328 := rfl
 refine ⟨by have := put_len xs h; omega, fun y hy => ?_⟩
 rcases put_mem hy with e | e
 · rw [e]; exact hh
 · exact hb.2 y e
theorem put_s (xs : List HoldT) (h : HoldT) (hb : HoldsB xs) (hl : xs.length ≤ 1048576) (hh : h.1.length ≤ big) : g146 xs h = some ((), (((holdPutM xs h).1, ()), ((holdPutM xs h).2, ()), ())) := by
 have hbig : big = 140737488355328 := rfl
 unfold g146 holdPutM
 rw [holds_s xs hb]
 dsimp only [Option.bind_some]
 cases hm : holdsM xs with
 | false => rfl
 | true =>
   have hl4 := holdsM_len hm
   simp only [cond_true, Bool.not_true, cond_false]
   have hp := holds_s (putM xs h) (put_b hb hl hh)
   have h' := loop_inv (step := fun (z : (List HoldT) × Bool × (List HoldT) × Int × Int × HoldT × Unit) => r146_0 z.1 z.2.1 z.2.2.1 z.2.2.2.1 z.2.2.2.2.1 z.2.2.2.2.2.1) xs (fun i (a : List HoldT × Bool) => (a.1, a.2, xs, lenI xs, ((i : Nat) : Int), h, ())) (fun _ x a => Sum.inl (putStep h x a)) (fun a => .inl (a.1, a.2, xs, lenI xs, (xs.length : Int), h, ())) (fun i a => a.1.length ≤ 2 * i) (a0 := ([], false)) (Nat.le_refl _) (fun i x a hx ha => by
    have hlt := lt_of_get hx
    show r146_0 a.1 a.2 xs (lenI xs) (i : Int) h = _
    have e : ∀ (o : List HoldT) (y : HoldT), o.length ≤ 100 → fitB 32 o [y] = true := fun o y ho => Nat.ble_eq_true_of_le (by simp; omega)
    have e1 := e a.1 h (by omega)
    have e2 := e a.1 x (by omega)
    have e3 := e (apL a.1 [h]) x (by unfold apL; simp; omega)
    unfold r146_0 putStep
    rw [ltI_in hx, inB_in hx, addW1 (by omega)]
    dsimp only [cond_true]
    have eg : gt d108 xs (i : Int) = x := gt_in _ hx
    rw [eg]
    have q1 : ltH h x = ltS x.1 h.1 := rfl
    have q2 : keepM h.1 x = !eqS x.1 h.1 := rfl
    rw [q1, q2, e1, e2, e3]
    cases a.2 <;> cases ltS x.1 h.1 <;> cases eqS x.1 h.1 <;> simp [apL]) (fun i x a a' hx ha hf => by
    simp only [Sum.inl.injEq] at hf
    rw [← hf]
    unfold putStep
    cases (cond (!a.2) (!ltH h x) false) <;> cases keepM h.1 x <;> simp <;> omega) (fun a ha => by
    show r146_0 a.1 a.2 xs (lenI xs) (xs.length : Int) h = _
    unfold r146_0
    rw [ltI_out rfl]; rfl)
   rw [goL_fold (fun x a => putStep h x a), put_fold] at h'
   have h'' : l146_0 [] false xs (lenI xs) 0 h = _ := h'
   rw [h'']
   by_cases ha : xs.all (ltH h) = true
   · rw [if_pos ha]
     simp only [Option.bind_some, Sum.elim_inl, List.nil_append, Bool.not_false, cond_true]
     have e1 : fitB 32 xs [h] = true := Nat.ble_eq_true_of_le (by simp; omega)
     have e2 : apL xs [h] = putM xs h := (putM_all ha).symm
     rw [e1, e2, hp]
     simp only [cond_true, Option.bind_some]
     cases holdsM (putM xs h) <;> rfl
   · rw [if_neg ha]
     simp only [Option.bind_some, Sum.elim_inl, List.nil_append, Bool.not_true, cond_false]
     rw [hp]
     simp only [Option.bind_some]
     cases holdsM (putM xs h) <;> rfl
theorem goL_tw {α Y : Type} (p : α → Bool) (y : Nat → Y) : ∀ (xs : List α) (i n : Nat), n = i + xs.length → goL (fun i x (_ : Unit) => bif p x then Sum.inl () else .inr (y i)) (fun _ => y n) i xs () = y (i + (xs.takeWhile p).length)
 | [], i, n, h => by simp at h; subst h; simp [goL]
 | x :: r, i, n, h => by
   rw [goL, List.takeWhile_cons]
   cases hp : p x with
   | true =>
     simp only [cond_true, if_true]
     rw [goL_tw p y r (i + 1) n (by simp only [List.length_cons] at h; omega)]
     congr 1
     simp only [List.length_cons]; omega
   | false => simp
theorem tw_take {α : Type} (p : α → Bool) : ∀ (xs : List α), xs.take (xs.takeWhile p).length = xs.takeWhile p ∧ xs.drop (xs.takeWhile p).length = xs.dropWhile p
 | [] => ⟨rfl, rfl⟩
 | x :: r => by
   rw [List.takeWhile_cons, List.dropWhile_cons]
   cases hp : p x with
   | true => obtain ⟨h1, h2⟩ := tw_take p r; simp only [if_true, List.length_cons, List.take_succ_cons, List.drop_succ_cons]; exact ⟨by rw [h1], h2⟩
   | false => exact ⟨rfl, rfl⟩
theorem put_i (xs : List HoldT) (h : HoldT) (hb : HoldsB xs) (hl : xs.length ≤ 1048576) (hh : h.1.length ≤ big) : g107 xs h = some ((), (((holdPutM xs h).1, ()), ((holdPutM xs h).2, ()), ())) := by
 have hbig : big = 140737488355328 := rfl
 unfold g107 holdPutM
 rw [holds_i xs hb, drop_i xs h.1 hl]
 dsimp only [Option.bind_some]
 cases hm : holdsM xs with
 | false => rfl
 | true =>
   have hl4 := holdsM_len hm
   simp only [cond_true, Bool.not_true, cond_false]
   have hp := holds_i (putM xs h) (put_b hb hl hh)
   obtain ⟨s1, s2⟩ := sorted_drop (h := h) (holdsM_sorted hm)
   have hFl := List.length_filter_le (keepM h.1) xs
   generalize hF : xs.filter (keepM h.1) = F at s1 s2 hFl
   obtain ⟨t1, t2⟩ := tw_take (ltH h) F
   have htl : (F.takeWhile (ltH h)).length ≤ F.length := (List.takeWhile_prefix _).length_le
   have h' := loop_list (step := fun (z : (List HoldT) × Int × HoldT × Unit) => r107_0 z.1 z.2.1 z.2.2.1) F (fun i (_ : Unit) => (F, ((i : Nat) : Int), h, ())) (fun i x _ => bif ltH h x then Sum.inl () else .inr (.inl (F, ((i : Nat) : Int), h, ()))) (fun _ => .inl (F, (F.length : Int), h, ())) (a0 := ()) (fun i x a hx => by
    have hlt := lt_of_get hx
    show r107_0 F (i : Int) h = _
    have eg : gt d108 F (i : Int) = x := gt_in _ hx
    have q1 : ltH h x = ltS x.1 h.1 := rfl
    unfold r107_0
    rw [ltI_in hx, inB_in hx, addW1 (by omega), eg, q1]
    dsimp only [cond_true]
    cases ltS x.1 h.1 <;> rfl) (fun a => by
    show r107_0 F (F.length : Int) h = _
    unfold r107_0
    rw [ltI_out rfl]; rfl)
   rw [goL_tw (ltH h) (fun i => Sum.inl (F, ((i : Nat) : Int), h, ())) F 0 F.length (by omega), Nat.zero_add] at h'
   have h'' : l107_0 F 0 h = _ := h'
   rw [h'']
   simp only [Option.bind_some, Sum.elim_inl]
   have hi : g160 F ((F.takeWhile (ltH h)).length : Int) [h] = some ((), ((putM xs h, ()), ())) := by
    unfold g160 insF
    have e1 : leI 0 ((F.takeWhile (ltH h)).length : Int) = true := decide_eq_true (Int.natCast_nonneg _)
    have e2 : leI ((F.takeWhile (ltH h)).length : Int) (F.length : Int) = true := decide_eq_true (by omega)
    have e3 : Nat.ble ((F.length + [h].length) * 32) big = true := Nat.ble_eq_true_of_le (by simp; omega)
    rw [e1, e2, e3]
    simp only [Bool.and_self, cond_true, Int.toNat_natCast]
    rw [t1, t2, s1, s2]
    unfold putM
    simp
   rw [hi]
   simp only [Option.bind_some]
   rw [hp]
   simp only [Option.bind_some]
   cases holdsM (putM xs h) <;> rfl
theorem drop_s (xs : List HoldT) (id : List UInt8) (hs : xs.length ≤ 1048576) : g148 xs id = some ((), ((xs.filter (keepM id), ()), ())) := by
 have hbig : big = 140737488355328 := rfl
 unfold g148
 have h := loop_inv (step := fun (z : List UInt8 × (List HoldT) × (List HoldT) × Int × Int × Unit) => r148_0 z.1 z.2.1 z.2.2.1 z.2.2.2.1 z.2.2.2.2.1) xs (fun i (a : List HoldT) => (id, a, xs, lenI xs, ((i : Nat) : Int), ())) (fun _ x a => Sum.inl (bif keepM id x then a ++ [x] else a)) (fun a => .inl (id, a, xs, lenI xs, (xs.length : Int), ())) (fun i a => a.length ≤ i) (a0 := []) (Nat.le_refl _) (fun i x a hx ha => by
  have hlt := lt_of_get hx
  show r148_0 id a xs (lenI xs) (i : Int) = _
  unfold r148_0 keepM
  have e : ∀ y : HoldT, fitB 32 a [y] = true := fun y => Nat.ble_eq_true_of_le (by simp; omega)
  rw [ltI_in hx, inB_in hx, gt_in _ hx]
  dsimp only [cond_true, Option.bind_some]
  rw [e, addW1 (by omega)]
  cases eqS x.1 id <;> rfl) (fun i x a a' hx ha hf => by
  simp only [Sum.inl.injEq] at hf
  rw [← hf]
  cases keepM id x with
  | true => simp; omega
  | false => simp; omega) (fun a ha => by
  show r148_0 id a xs (lenI xs) (xs.length : Int) = _
  unfold r148_0
  rw [ltI_out rfl]; rfl)
 rw [goL_filter] at h
 have h' : l148_0 id [] xs (lenI xs) 0 = _ := h
 rw [h']; rfl
def authM (a : AcctT) (id : List UInt8) (amt ttl now : Int) : AcctT × Int :=
 cond (cond (acctM a) (cond (timeM now) (holdIdM id) false) false)
  (cond (inM amt 1 9007199254740992)
    (cond (cond (!inM ttl 1 9999) true (ltI 1000000000 (addW .i64 now ttl))) (acct0, 4)
      (cond (leI 0 (holdAtM (sweptM a now).2.2.2.2.2.1 id)) (acct0, 6)
        (cond (eqI (lenI (sweptM a now).2.2.2.2.2.1) 4) (acct0, 10)
          (cond (eqI (fitsM (sweptM a now) amt now) 0)
            (((sweptM a now).1, (sweptM a now).2.1, (sweptM a now).2.2.1, (sweptM a now).2.2.2.1, (sweptM a now).2.2.2.2.1,
              (holdPutM (sweptM a now).2.2.2.2.2.1 (id, amt, addW .i64 now ttl, ())).1,
              (ringAddM (rgOf (sweptM a now)) now amt).1, (ringAddM (rgOf (sweptM a now)) now amt).2.1, (ringAddM (rgOf (sweptM a now)) now amt).2.2.1, (ringAddM (rgOf (sweptM a now)) now amt).2.2.2.1, (sweptM a now).2.2.2.2.2.2.2.2.2.2.1, ()), 0)
            (acct0, fitsM (sweptM a now) amt now)))))
    (acct0, 4))
  (acct0, 1)
theorem auth_s (a : AcctT) (id : List UInt8) (amt ttl now : Int) (hb : AcctB a) (hi : id.length ≤ 1048576) : g88 a id amt ttl now = some ((), ((authM a id amt ttl now).1, ((authM a id amt ttl now).2, ()), ())) := by
 have hsb := swept_b now hb
 unfold g88 g142 authM
 rw [acct_s a hb, time_s, holdId_s id (le_big hi), in_s, in_s, swept_s a now hb]
 dsimp only [Option.bind_some]
 generalize sweptM a now = s at hsb ⊢
 have h1 : g147 (s.2.2.2.2.2.2.1, s.2.2.2.2.2.2.2.1, s.2.2.2.2.2.2.2.2.1, s.2.2.2.2.2.2.2.2.2.1, ()) now amt = _ := ringAdd_s (rgOf s) now amt hsb.2.2.1
 rw [holdAt_s _ id hsb.2.1.1, fits_s s amt now hsb, put_s _ (id, amt, addW .i64 now ttl, ()) hsb.hs hsb.2.1.1 (le_big hi)]
 dsimp only [Option.bind_some]
 rw [h1]
 cases acctM a <;> first | rfl | skip
 cases timeM now <;> first | rfl | skip
 cases holdIdM id <;> first | rfl | skip
 cases inM amt 1 9007199254740992 <;> first | rfl | skip
 dsimp only [cond_true, cond_false, Bool.not_true, Option.bind_some]
 cases (cond (!inM ttl 1 9999) true (ltI 1000000000 (addW .i64 now ttl))) <;> first | rfl | skip
 dsimp only [cond_true, cond_false, Bool.not_true, Option.bind_some]
 cases leI 0 (holdAtM s.2.2.2.2.2.1 id) <;> first | rfl | skip
 cases eqI (lenI s.2.2.2.2.2.1) 4 <;> first | rfl | skip
 dsimp only [cond_true, cond_false, Bool.not_true, Option.bind_some]
 cases eqI (fitsM s amt now) 0 <;> rfl
theorem auth_i (a : AcctT) (id : List UInt8) (amt ttl now : Int) (hb : AcctB a) (hi : id.length ≤ 1048576) : g48 a id amt ttl now = some ((), ((authM a id amt ttl now).1, ((authM a id amt ttl now).2, ()), ())) := by
 have hsb := swept_b now hb
 unfold g48 g29 authM
 rw [acct_i a hb, time_i, holdId_i id (le_big hi), in_i, in_i, swept_i a now hb]
 dsimp only [Option.bind_some]
 generalize sweptM a now = s at hsb ⊢
 have h1 : g108 (s.2.2.2.2.2.2.1, s.2.2.2.2.2.2.2.1, s.2.2.2.2.2.2.2.2.1, s.2.2.2.2.2.2.2.2.2.1, ()) now amt = _ := ringAdd_i (rgOf s) now amt hsb.2.2.1
 have h2 := holdAt_i s.2.2.2.2.2.1 id hsb.2.1.1
 have h3 := fits_i s amt now hsb
 have h4 := put_i s.2.2.2.2.2.1 (id, amt, addW .i64 now ttl, ()) hsb.hs hsb.2.1.1 (le_big hi)
 cases acctM a <;> first | rfl | skip
 cases timeM now <;> first | rfl | skip
 have e00 : eqI 0 0 = true := rfl
 simp only [cond_true, cond_false, Bool.not_true, Bool.not_false, Option.bind_some, e00]
 cases holdIdM id <;> first | rfl | skip
 cases inM amt 1 9007199254740992 <;> first | rfl | skip
 simp only [cond_true, cond_false, Bool.not_true, Bool.not_false, Option.bind_some]
 cases (cond (!inM ttl 1 9999) true (ltI 1000000000 (addW .i64 now ttl))) <;> first | rfl | skip
 simp only [cond_true, cond_false, Bool.not_true, Bool.not_false, Option.bind_some]
 rw [h2, h3, h4]
 dsimp only [Option.bind_some]
 rw [h1]
 cases leI 0 (holdAtM s.2.2.2.2.2.1 id) <;> first | rfl | skip
 cases eqI (lenI s.2.2.2.2.2.1) 4 <;> first | rfl | skip
 dsimp only [cond_true, cond_false, Bool.not_true, Option.bind_some]
 cases eqI (fitsM s amt now) 0 <;> rfl
def wHolds (a : AcctT) (l : List HoldT) : AcctT := (a.1, a.2.1, a.2.2.1, a.2.2.2.1, a.2.2.2.2.1, l, a.2.2.2.2.2.2.1, a.2.2.2.2.2.2.2.1, a.2.2.2.2.2.2.2.2.1, a.2.2.2.2.2.2.2.2.2.1, a.2.2.2.2.2.2.2.2.2.2.1, ())
def hd0 : HoldT := ([], 0, 0, ())
def moveM (a b : AcctT) (id : List UInt8) (now : Int) : AcctT × AcctT × Int :=
 cond (cond (acctM a) (cond (timeM now) (holdIdM id) false) false)
  (cond (acctM b)
    (cond (eqS a.1 b.1) (acct0, acct0, 4)
      (cond (ltI (holdAtM (sweptM a now).2.2.2.2.2.1 id) 0) (acct0, acct0, 5)
        (cond (leI 0 (holdAtM (sweptM b now).2.2.2.2.2.1 id)) (acct0, acct0, 6)
          (cond (eqI (lenI (sweptM b now).2.2.2.2.2.1) 4) (acct0, acct0, 10)
            (cond (ltI (roomM (sweptM b now) now) (gt hd0 (sweptM a now).2.2.2.2.2.1 (holdAtM (sweptM a now).2.2.2.2.2.1 id)).2.1) (acct0, acct0, 7)
              (wHolds (sweptM a now) ((sweptM a now).2.2.2.2.2.1.filter (keepM id)), wHolds (sweptM b now) (holdPutM (sweptM b now).2.2.2.2.2.1 (gt hd0 (sweptM a now).2.2.2.2.2.1 (holdAtM (sweptM a now).2.2.2.2.2.1 id))).1, 0))))))
    (acct0, acct0, 1))
  (acct0, acct0, 1)
theorem gt_hd {xs : List HoldT} {k : Int} (hb : ∀ y ∈ xs, y.1.length ≤ 1048576) : (gt hd0 xs k).1.length ≤ 1048576 := by
 unfold gt
 rw [List.getD_eq_getElem?_getD]
 cases h : xs[k.toNat]? with
 | none => exact Nat.zero_le _
 | some y => exact hb y (List.mem_of_getElem? h)
theorem move_s (a b : AcctT) (id : List UInt8) (now : Int) (hb : AcctB a) (hc : AcctB b) (hi : id.length ≤ 1048576) : g92 a b id now = some ((), ((moveM a b id now).1, ((moveM a b id now).2.1, ((moveM a b id now).2.2, ()), ()))) := by
 have hsb := swept_b now hb
 have hsc := swept_b now hc
 unfold g92 g142 moveM
 rw [acct_s a hb, time_s, holdId_s id (le_big hi), acct_s b hc, swept_s a now hb, swept_s b now hc]
 dsimp only [Option.bind_some]
 generalize sweptM a now = s at hsb ⊢
 generalize sweptM b now = t at hsc ⊢
 rw [holdAt_s _ id hsb.2.1.1, holdAt_s _ id hsc.2.1.1, room_s t now hsc, drop_s _ id hsb.2.1.1]
 dsimp only [Option.bind_some]
 have hgt : ∀ k : Int, gt d108 s.2.2.2.2.2.1 k = gt hd0 s.2.2.2.2.2.1 k := fun _ => rfl
 rw [hgt, put_s _ _ hsc.hs hsc.2.1.1 (le_big (gt_hd hsb.2.1.2))]
 dsimp only [Option.bind_some]
 cases acctM a <;> first | rfl | skip
 cases timeM now <;> first | rfl | skip
 cases holdIdM id <;> first | rfl | skip
 cases acctM b <;> first | rfl | skip
 cases eqS a.1 b.1 <;> first | rfl | skip
 by_cases hat : holdAtM s.2.2.2.2.2.1 id < 0
 · rw [ltI_yes hat]; rfl
 · rw [ltI_no hat, holdAt_in hat]
   cases leI 0 (holdAtM t.2.2.2.2.2.1 id) <;> first | rfl | skip
   cases eqI (lenI t.2.2.2.2.2.1) 4 <;> first | rfl | skip
   dsimp only [cond_true, cond_false, Bool.not_true, Option.bind_some]
   cases ltI (roomM t now) (gt hd0 s.2.2.2.2.2.1 (holdAtM s.2.2.2.2.2.1 id)).2.1 <;> rfl
theorem move_i (a b : AcctT) (id : List UInt8) (now : Int) (hb : AcctB a) (hc : AcctB b) (hi : id.length ≤ 1048576) : g52 a b id now = some ((), ((moveM a b id now).1, ((moveM a b id now).2.1, ((moveM a b id now).2.2, ()), ()))) := by
 have hsb := swept_b now hb
 have hsc := swept_b now hc
 unfold g52 g29 moveM
 rw [acct_i a hb, time_i, holdId_i id (le_big hi), acct_i b hc, swept_i a now hb, swept_i b now hc]
 dsimp only [Option.bind_some]
 generalize sweptM a now = s at hsb ⊢
 generalize sweptM b now = t at hsc ⊢
 have h0 := holdAt_i [] id (by decide)
 have h1 := holdAt_i s.2.2.2.2.2.1 id hsb.2.1.1
 have h2 := holdAt_i t.2.2.2.2.2.1 id hsc.2.1.1
 have h3 := room_i t now hsc
 have h4 := drop_i s.2.2.2.2.2.1 id hsb.2.1.1
 have hgt : ∀ k : Int, gt d108 s.2.2.2.2.2.1 k = gt hd0 s.2.2.2.2.2.1 k := fun _ => rfl
 have h5 := put_i t.2.2.2.2.2.1 (gt hd0 s.2.2.2.2.2.1 (holdAtM s.2.2.2.2.2.1 id)) hsc.hs hsc.2.1.1 (le_big (gt_hd hsb.2.1.2))
 have e00 : eqI 0 0 = true := rfl
 have e10 : eqI 1 0 = false := rfl
 cases acctM a with
 | false =>
   simp only [cond_true, cond_false, Bool.not_true, Bool.not_false, Option.bind_some, e00, e10]
   cases acctM b <;> cases timeM now <;> (simp only [cond_true, cond_false, Bool.not_true, Bool.not_false, Option.bind_some, h0]; rfl)
 | true =>
 cases timeM now with
 | false =>
   cases acctM b <;> (simp only [cond_true, cond_false, Bool.not_true, Bool.not_false, Option.bind_some, h0]; rfl)
 | true =>
 cases acctM b with
 | false =>
   simp only [cond_true, cond_false, Bool.not_true, Bool.not_false, Option.bind_some, h1, e00, e10]
   cases holdIdM id <;> rfl
 | true =>
 simp only [cond_true, cond_false, Bool.not_true, Bool.not_false, Option.bind_some, h1, h2, h3, h4, e00, e10, hgt, h5]
 cases holdIdM id <;> first | rfl | skip
 cases eqS a.1 b.1 <;> first | rfl | skip
 by_cases hat : holdAtM s.2.2.2.2.2.1 id < 0
 · rw [ltI_yes hat]; rfl
 · rw [ltI_no hat, holdAt_in hat]
   cases leI 0 (holdAtM t.2.2.2.2.2.1 id) <;> first | rfl | skip
   cases eqI (lenI t.2.2.2.2.2.1) 4 <;> first | rfl | skip
   simp only [cond_true, cond_false, Bool.not_true, Bool.not_false, Option.bind_some]
   cases ltI (roomM t now) (gt hd0 s.2.2.2.2.2.1 (holdAtM s.2.2.2.2.2.1 id)).2.1 <;> rfl
theorem digU (d : Nat) (h : d ≤ 9) : strOf [(cvtW .u8 (addW .i64 48 (d : Int)), ())] = [UInt8.ofNat (48 + d)] := by
 rw [addW_in (by omega) (by omega)]
 have : cvtW .u8 (48 + (d : Int)) = 48 + (d : Int) := by unfold cvtW; rw [IntKind.wrap_u8]; omega
 rw [this]
 show [UInt8.ofNat (Int.toNat (48 + (d : Int)))] = _
 rw [show Int.toNat (48 + (d : Int)) = 48 + d by omega]
theorem fitS_le {s t : List UInt8} (h : s.length + t.length ≤ big) : fitS s t = true := Nat.ble_eq_true_of_le h
theorem dec_len {u : Nat} (h : u < 18446744073709551616) : (Lib.decDigits u).length ≤ 20 := by rw [Lib.decDigits_length]; exact Lib.nDigits_le20 u h
theorem numLoop : ∀ (f u : Nat) (s : List UInt8), u ≤ f → u ≤ 4611686018427387904 → (Lib.decDigits u).length + s.length ≤ 40 → ∃ (u' : Nat) (s' : List UInt8), l68_0 (u : Int) s = some (.inl ((u' : Int), s', ())) ∧ u' ≤ 9 ∧ UInt8.ofNat (48 + u') :: s' = Lib.decDigits u ++ s
 | 0, u, s, hf, hm, hl => by
   refine ⟨u, s, loopF_end _ ?_, by omega, ?_⟩
   · show r68_0 (u : Int) s = _
     unfold r68_0
     rw [ltI_no (by omega)]; rfl
   · rw [Lib.decDigits, dif_pos (by omega)]; rfl
 | f + 1, u, s, hf, hm, hl => by
   by_cases hu : u < 10
   · refine ⟨u, s, loopF_end _ ?_, by omega, ?_⟩
     · show r68_0 (u : Int) s = _
       unfold r68_0
       rw [ltI_no (by omega)]; rfl
     · rw [Lib.decDigits, dif_pos hu]; rfl
   · have hd : Lib.decDigits u = Lib.decDigits (u / 10) ++ [UInt8.ofNat (48 + u % 10)] := by rw [Lib.decDigits, dif_neg hu]
     have hbig : big = 140737488355328 := rfl
     have hl2 : (Lib.decDigits (u / 10)).length + (UInt8.ofNat (48 + u % 10) :: s).length ≤ 40 := by
      rw [hd, List.length_append] at hl
      simp only [List.length_cons, List.length_nil] at hl ⊢
      omega
     obtain ⟨u', s', h1, h2, h3⟩ := numLoop f (u / 10) (UInt8.ofNat (48 + u % 10) :: s) (by omega) (by omega) hl2
     refine ⟨u', s', loopF_step _ (x' := (((u / 10 : Nat) : Int), UInt8.ofNat (48 + u % 10) :: s, ())) ?_ h1, h2, by rw [h3, hd, List.append_assoc]; rfl⟩
     show r68_0 (u : Int) s = _
     unfold r68_0
     have hr : remI (u : Int) 10 = ((u % 10 : Nat) : Int) := by
      unfold remI
      rw [Int.tmod_eq_emod_of_nonneg (by omega)]
      omega
     have hq : quoW .i64 (u : Int) 10 = ((u / 10 : Nat) : Int) := by
      unfold quoW
      rw [Int.tdiv_eq_ediv_of_nonneg (by omega), IntKind.wrap_i64]
      omega
     rw [ltI_yes (by omega), hr, hq, digU _ (by omega)]
     dsimp only [cond_true]
     rw [fitS_le (by simp only [List.length_cons, List.length_nil]; omega)]
     rfl
def numM (n : Int) : List UInt8 := cond (moneyM n) (Lib.itoa n) []
theorem num_s (n : Int) : g68 n = some ((), ((numM n, ()), ())) := by
 have hbig : big = 140737488355328 := rfl
 unfold g68 numM
 rw [money_s]
 dsimp only [Option.bind_some]
 cases hm : moneyM n with
 | false => rfl
 | true =>
   have hb := inM_iff.1 hm
   obtain ⟨u, rfl⟩ : ∃ u : Nat, n = u := ⟨n.toNat, by omega⟩
   have hlen := dec_len (u := u) (by omega)
   obtain ⟨u', s', h1, h2, h3⟩ := numLoop u u [] (Nat.le_refl _) (by omega) (by simp only [List.length_nil]; omega)
   refine (congrArg (fun z => Option.bind z _) h1).trans ?_
   show cond (fitS (strOf [(cvtW .u8 (addW .i64 48 (u' : Int)), ())]) s') (some ((), ((apS (strOf [(cvtW .u8 (addW .i64 48 (u' : Int)), ())]) s', ()), ()))) none = _
   rw [digU _ h2]
   have hl := congrArg List.length h3
   simp only [List.length_cons, List.append_nil] at hl h3
   rw [fitS_le (by simp only [List.length_cons, List.length_nil]; omega)]
   rw [Lib.itoa_nonneg, ← h3]; rfl
theorem rep_eq (x : UInt8) : ∀ n : Nat, Lib.repeatL [x] n = List.replicate n x
 | 0 => rfl
 | n + 1 => by rw [Lib.repeatL, rep_eq x n]; rfl
def wideM (n w : Int) : List UInt8 := cond (moneyM n && inM w 1 18 && leI (lenI (Lib.itoa n)) w) (List.replicate (w - lenI (Lib.itoa n)).toNat 48 ++ Lib.itoa n) []
theorem wideLoop (w : Nat) (hw : w ≤ 18) : ∀ (d : Nat) (s : List UInt8), s.length + d = w → l24_0 (w : Int) s = some (.inl ((w : Int), List.replicate d 48 ++ s, ()))
 | 0, s, h => by
   refine loopF_end _ ?_
   show r24_0 (w : Int) s = _
   unfold r24_0
   rw [ltI_no (by unfold lenI; omega)]; rfl
 | d + 1, s, h => by
   have hbig : big = 140737488355328 := rfl
   have ih := wideLoop w hw d (48 :: s) (by simp only [List.length_cons]; omega)
   have e : List.replicate (d + 1) (48 : UInt8) ++ s = List.replicate d 48 ++ (48 :: s) := by rw [List.replicate_succ', List.append_assoc]; rfl
   rw [e]
   refine loopF_step _ (x' := ((w : Int), 48 :: s, ())) ?_ ih
   show r24_0 (w : Int) s = _
   unfold r24_0
   rw [ltI_yes (by unfold lenI; omega), fitS_le (by simp only [List.length_cons, List.length_nil]; omega)]; rfl
theorem itoa_pos {n : Int} (h : 0 ≤ n) : 1 ≤ (Lib.itoa n).length := by
 obtain ⟨u, rfl⟩ : ∃ u : Nat, n = u := ⟨n.toNat, by omega⟩
 rw [Lib.itoa_nonneg, Lib.decDigits_length]; exact Lib.nDigits_pos u
theorem wide_s (n w : Int) : g24 n w = some ((), ((wideM n w, ()), ())) := by
 unfold g24 wideM
 rw [num_s]
 dsimp only [Option.bind_some]
 unfold numM
 cases hm : moneyM n with
 | false => rfl
 | true =>
   have hb := inM_iff.1 hm
   have hp := itoa_pos hb.1
   have he : eqS (Lib.itoa n) [] = false := by
    cases hi : Lib.itoa n with
    | nil => rw [hi] at hp; simp at hp
    | cons x r => rfl
   rw [cond_true, he]
   dsimp only [cond_false, Bool.true_and]
   by_cases h1 : w < 1
   · rw [ltI_yes h1, show inM w 1 18 = false by unfold inM leI; rw [decide_eq_false (by omega)]; rfl]; rfl
   · by_cases h2 : 18 < w
     · rw [ltI_no h1, ltI_yes h2, show inM w 1 18 = false by unfold inM leI; rw [decide_eq_true (show (1 : Int) ≤ w by omega), decide_eq_false (by omega)]; rfl]; rfl
     · rw [ltI_no h1, ltI_no h2, inM_iff.2 ⟨by omega, by omega⟩]
       dsimp only [cond_false, Bool.true_and]
       by_cases h3 : w < lenI (Lib.itoa n)
       · rw [ltI_yes h3, show leI (lenI (Lib.itoa n)) w = false from decide_eq_false (by omega)]; rfl
       · rw [ltI_no h3, show leI (lenI (Lib.itoa n)) w = true from decide_eq_true (by omega)]
         obtain ⟨W, rfl⟩ : ∃ W : Nat, w = W := ⟨w.toNat, by omega⟩
         have h3 : (Lib.itoa n).length ≤ W := by unfold lenI at h3; omega
         have := wideLoop W (by omega) (W - (Lib.itoa n).length) (Lib.itoa n) (by omega)
         dsimp only [cond_false, cond_true]
         rw [this]
         dsimp only [Option.bind_some, Sum.elim_inl]
         rw [show ((W : Int) - lenI (Lib.itoa n)).toNat = W - (Lib.itoa n).length by unfold lenI; omega]
         rfl
theorem itoa_big {n : Int} (h : 4611686018427387904 < n) (h2 : n ≤ 9223372036854775807) : (Lib.itoa n).length = 19 := by
 obtain ⟨u, rfl⟩ : ∃ u : Nat, n = u := ⟨n.toNat, by omega⟩
 rw [Lib.itoa_nonneg, Lib.decDigits_length]
 exact Lib.nDigits_unique 18 u (by omega) (by omega)
theorem wide_i (n w : Int) (hn : -9223372036854775808 ≤ n ∧ n ≤ 9223372036854775807) : g30 n w = some ((), ((wideM n w, ()), ())) := by
 have hbig : big = 140737488355328 := rfl
 unfold g30 g75 itoaG wideM
 dsimp only [Option.bind_some]
 rw [in_i]
 by_cases h0 : n < 0
 · rw [ltI_yes h0, show moneyM n = false by unfold moneyM inM leI; rw [decide_eq_false (by omega)]; rfl]; rfl
 rw [ltI_no h0]
 dsimp only [cond_false, Option.bind_some]
 cases hw : inM w 1 18 with
 | false => rw [Bool.and_false]; rfl
 | true =>
   have hwb := inM_iff.1 hw
   rw [Bool.and_true]
   by_cases h3 : w < lenI (Lib.itoa n)
   · rw [ltI_yes h3, show leI (lenI (Lib.itoa n)) w = false from decide_eq_false (by omega), Bool.and_false]; rfl
   · have hm : moneyM n = true := by
      by_cases hh : 4611686018427387904 < n
      · have := itoa_big hh hn.2
        unfold lenI at h3; omega
      · exact inM_iff.2 ⟨by omega, by omega⟩
     have hlen : (Lib.itoa n).length ≤ 18 := by unfold lenI at h3; omega
     rw [ltI_no h3, hm, show leI (lenI (Lib.itoa n)) w = true from decide_eq_true (by omega)]
     have hs : subW .i64 w (lenI (Lib.itoa n)) = w - lenI (Lib.itoa n) := subW_in (by unfold lenI; omega) (by unfold lenI; omega)
     rw [hs]
     unfold g77 repeatG
     rw [show leI 0 (w - lenI (Lib.itoa n)) = true from decide_eq_true (by omega), show Nat.ble (([48] : List UInt8).length * (w - lenI (Lib.itoa n)).toNat) big = true from Nat.ble_eq_true_of_le (by simp only [List.length_cons, List.length_nil]; unfold lenI; omega)]
     show cond (fitS (Lib.repeatL [48] (w - lenI (Lib.itoa n)).toNat) (Lib.itoa n)) (some ((), ((apS (Lib.repeatL [48] (w - lenI (Lib.itoa n)).toNat) (Lib.itoa n), ()), ()))) none = _
     rw [rep_eq, fitS_le (by simp only [List.length_replicate]; unfold lenI; omega)]
     rfl
theorem wideM_len (n w : Int) : (wideM n w).length ≤ 18 := by
 unfold wideM
 cases hc : moneyM n && inM w 1 18 && leI (lenI (Lib.itoa n)) w with
 | false => simp
 | true =>
   simp only [Bool.and_eq_true] at hc
   have h1 := inM_iff.1 hc.1.2
   have h2 : lenI (Lib.itoa n) ≤ w := of_decide_eq_true hc.2
   simp only [cond_true, List.length_append, List.length_replicate]
   unfold lenI at h2 ⊢; omega
theorem sat_mono {a b x : Int} (h0 : 0 ≤ a) (h : a ≤ b) (hb : b ≤ 4611686018427387904) : satM a x ≤ satM b x := by
 have hx := clampM_bd x
 generalize hcx : clampM x = c at hx
 have e1 : clampM a = a := by unfold clampM; rw [if_neg (by omega), if_neg (by omega)]
 have e2 : clampM b = b := by unfold clampM; rw [if_neg (by omega), if_neg (by omega)]
 unfold satM; rw [e1, e2, hcx]; split <;> split <;> omega
theorem sat_ge {a x : Int} (h0 : 0 ≤ a) (hb : a ≤ 4611686018427387904) : a ≤ satM a x := by
 have := clampM_bd x
 have e1 : clampM a = a := by unfold clampM; rw [if_neg (by omega), if_neg (by omega)]
 unfold satM; rw [e1]; split <;> omega
theorem fold_filter (p : HoldT → Bool) : ∀ (xs : List HoldT) (a b : Int), 0 ≤ a → a ≤ b → b ≤ 4611686018427387904 → (xs.filter p).foldl (fun a h => satM a h.2.1) a ≤ xs.foldl (fun a h => satM a h.2.1) b
 | [], _, _, _, h, _ => h
 | x :: r, a, b, h0, h, hb => by
   have e1 := satM_bd b x.2.1
   have e2 := satM_bd a x.2.1
   have e3 := sat_mono (x := x.2.1) h0 h hb
   have e4 := sat_ge (x := x.2.1) (show 0 ≤ b by omega) hb
   rw [List.filter_cons]
   split
   · exact fold_filter p r _ _ e2.1 e3 e1.2
   · exact fold_filter p r a (satM b x.2.1) h0 (by omega) e1.2
theorem stored_bd : ∀ (xs : List HoldT) (a : Int), 0 ≤ a → a ≤ 4611686018427387904 → 0 ≤ xs.foldl (fun a h => satM a h.2.1) a ∧ xs.foldl (fun a h => satM a h.2.1) a ≤ 4611686018427387904
 | [], _, h0, h => ⟨h0, h⟩
 | x :: r, a, h0, h => stored_bd r _ (satM_bd a x.2.1).1 (satM_bd a x.2.1).2
theorem sat_mono2 {a x y : Int} (h0 : 0 ≤ x) (h : x ≤ y) (hb : y ≤ 4611686018427387904) : satM a x ≤ satM a y := by
 have := clampM_bd a
 have e1 : clampM x = x := by unfold clampM; rw [if_neg (by omega), if_neg (by omega)]
 have e2 : clampM y = y := by unfold clampM; rw [if_neg (by omega), if_neg (by omega)]
 unfold satM; rw [e1, e2]; split <;> split <;> omega
theorem swept_ok {a : AcctT} (now : Int) (h : acctM a = true) : acctM (sweptM a now) = true := by
 unfold sweptM
 rw [h]
 cases timeM now with
 | false => exact h
 | true =>
   simp only [cond_true]
   unfold acctM at h ⊢
   revert h
   cases acctIdM a.1 <;> first | exact fun h => h | skip
   cases inM a.2.1 0 9007199254740992 <;> first | exact fun h => h | skip
   cases inM a.2.2.2.1 0 1000 <;> first | exact fun h => h | skip
   cases inM a.2.2.2.2.1 0 9007199254740992 <;> first | exact fun h => h | skip
   cases moneyM a.2.2.1 <;> first | exact fun h => h | skip
   simp only [cond_true]
   cases hh : holdsM a.2.2.2.2.2.1 with
   | false => intro h; simp at h
   | true =>
     rw [holdsM_filter _ hh]
     simp only [cond_true]
     have hr : rgOf (a.1, a.2.1, a.2.2.1, a.2.2.2.1, a.2.2.2.2.1, a.2.2.2.2.2.1.filter (liveM now), a.2.2.2.2.2.2.1, a.2.2.2.2.2.2.2.1, a.2.2.2.2.2.2.2.2.1, a.2.2.2.2.2.2.2.2.2.1, a.2.2.2.2.2.2.2.2.2.2.1, ()) = rgOf a := rfl
     rw [hr]
     cases ringM (rgOf a) <;> first | exact fun h => h | skip
     cases slotsM a.2.2.2.2.2.2.2.2.2.2.1 <;> first | exact fun h => h | skip
     simp only [cond_true]
     intro h
     have h1 : satM a.2.2.1 (storedM a.2.2.2.2.2.1) ≤ a.2.1 := of_decide_eq_true h
     have h2 := fold_filter (liveM now) a.2.2.2.2.2.1 0 0 (Int.le_refl _) (Int.le_refl _) (by decide)
     have h3 := stored_bd a.2.2.2.2.2.1 0 (Int.le_refl _) (by decide)
     have h4 := stored_bd (a.2.2.2.2.2.1.filter (liveM now)) 0 (Int.le_refl _) (by decide)
     exact decide_eq_true (Int.le_trans (sat_mono2 h4.1 h2 h3.2) h1)
theorem room_swept {a : AcctT} (now : Int) (h : acctM a = true) : roomM (sweptM a now) now = roomM a now := by
 have h2 := swept_ok now h
 unfold roomM
 rw [h2, h]
 unfold sweptM
 rw [h]
 cases timeM now with
 | false => rfl
 | true =>
   simp only [cond_true]
   unfold liveSumM
   rw [List.filter_filter]
   simp only [Bool.and_self]
theorem posted_swept (a : AcctT) (now : Int) : (sweptM a now).2.2.1 = a.2.2.1 := by
 unfold sweptM; cases acctM a <;> first | rfl | skip
 cases timeM now <;> rfl
def askM (a : AcctT) (now : Int) : List UInt8 × Int := cond (acctM a) (cond (timeM now) ((wideM (roomM a now) 16 ++ [32]) ++ wideM a.2.2.1 16, 0) ([], 1)) ([], 1)
theorem ask_s (a : AcctT) (now : Int) (hb : AcctB a) : g6 a now = some ((), ((askM a now).1, ()), ((askM a now).2, ()), ()) := by
 have hbig : big = 140737488355328 := rfl
 have w1 := wideM_len (roomM a now) 16
 have w2 := wideM_len a.2.2.1 16
 unfold g6 askM
 rw [acct_s a hb, time_s, room_s a now hb]
 dsimp only [Option.bind_some]
 rw [wide_s, wide_s]
 cases acctM a <;> first | rfl | skip
 cases timeM now <;> first | rfl | skip
 dsimp only [Option.bind_some, Bool.not_true, cond_false, cond_true, apS]
 rw [fitS_le (by simp only [List.length_cons, List.length_nil]; omega), fitS_le (by simp only [List.length_append, List.length_cons, List.length_nil]; omega)]
 rfl
theorem roomM_in (a : AcctT) (now : Int) : -9223372036854775808 ≤ roomM a now ∧ roomM a now ≤ 9223372036854775807 := by
 unfold roomM
 have z : (-9223372036854775808 : Int) ≤ 0 ∧ (0 : Int) ≤ 9223372036854775807 := by decide
 cases acctM a <;> first | exact z | skip
 cases timeM now <;> first | exact z | skip
 have e : ∀ x : Int, -9223372036854775808 ≤ IntKind.i64.wrap x ∧ IntKind.i64.wrap x ≤ 9223372036854775807 := fun x => by rw [IntKind.wrap_i64]; omega
 exact e _
theorem posted_in {a : AcctT} (ha : acctM a = true) : -9223372036854775808 ≤ a.2.2.1 ∧ a.2.2.1 ≤ 9223372036854775807 := by
 unfold acctM at ha
 cases hm : moneyM a.2.2.1 with
 | true => have := inM_iff.1 hm; omega
 | false =>
   rw [hm] at ha
   revert ha
   cases acctIdM a.1 <;> cases inM a.2.1 0 9007199254740992 <;> cases inM a.2.2.2.1 0 1000 <;> cases inM a.2.2.2.2.1 0 9007199254740992 <;> simp
theorem begin_i (a : AcctT) (now : Int) (hb : AcctB a) : g29 a now = cond (acctM a) (cond (timeM now) (some ((), (sweptM a now, ((0, ()), ())))) (some ((), (([], 0, 0, 0, 0, [], 0, 0, [], [], [], ()), ((1, ()), ()))))) (some ((), (([], 0, 0, 0, 0, [], 0, 0, [], [], [], ()), ((1, ()), ())))) := by
 unfold g29
 rw [acct_i a hb, time_i, swept_i a now hb]
 dsimp only [Option.bind_some]
 cases acctM a <;> first | rfl | skip
 cases timeM now <;> rfl
theorem ask_i (a : AcctT) (now : Int) (hb : AcctB a) : g8 a now = some ((), ((askM a now).1, ()), ((askM a now).2, ()), ()) := by
 have hbig : big = 140737488355328 := rfl
 have w1 := wideM_len (roomM a now) 16
 have w2 := wideM_len a.2.2.1 16
 have hbeg := begin_i a now hb
 unfold g8 askM
 cases ha : acctM a with
 | false => rw [ha] at hbeg; rw [hbeg]; rfl
 | true =>
 cases ht : timeM now with
 | false => rw [ha, ht] at hbeg; rw [hbeg]; rfl
 | true =>
 rw [ha, ht] at hbeg
 rw [hbeg]
 have hr := room_i (sweptM a now) now (swept_b now hb)
 rw [room_swept now ha] at hr
 have h0 : eqI 0 0 = true := rfl
 have hw := wide_i _ 16 (roomM_in a now)
 have hw2 := wide_i _ 16 (posted_in ha)
 dsimp only [cond_true, Option.bind_some]
 rw [h0, hr, posted_swept]
 dsimp only [cond_true, cond_false, Option.bind_some, Bool.not_true]
 rw [hw, hw2]
 dsimp only [Option.bind_some, Bool.not_true, cond_false, cond_true, apS]
 rw [fitS_le (by simp only [List.length_cons, List.length_nil]; omega), fitS_le (by simp only [List.length_append, List.length_cons, List.length_nil]; omega)]
 rfl
def fnvStep (h : Nat) (c : UInt8) : Nat := ((h ^^^ c.toNat) * 16777619) % 4294967296
def fnvM (s : List UInt8) : Nat := s.foldl fnvStep 2166136261
def stripeM (s : List UInt8) (n : Int) : Int := cond (ltI n 1) 0 (remI ((fnvM s : Nat) : Int) n)
def bookStep (xs : List AcctT) (i : Nat) (x : AcctT) : Bool := cond (acctM x) (cond (decide (0 < i)) (ltS (gt ([], 0, 0, 0, 0, [], 0, 0, [], [], [], ()) xs ((i : Int) - 1)).1 x.1) true) false
def bookM (b : List AcctT) : Bool := cond (allI (bookStep b) 0 b) (leI (lenI b) 6) false
def BookB (b : List AcctT) : Prop := b.length ≤ 1048576 ∧ ∀ a ∈ b, AcctB a
theorem book_s (b : List AcctT) (hb : BookB b) : g36 (b, ()) = some ((), ((bookM b, ()), ())) := by
 have hbig : big = 140737488355328 := rfl
 have hl := hb.1
 unfold g36
 have h := loop_list (step := fun (x : (List AcctT) × Int × Int × ((List AcctT) × Unit) × Unit) => r36_0 x.1 x.2.1 x.2.2.1 x.2.2.2.1) b (fun i (_ : Unit) => (b, lenI b, ((i : Nat) : Int), (b, ()), ())) (fun i x _ => bif bookStep b i x then Sum.inl () else .inr (.inr (false, ()))) (fun _ => .inl (b, lenI b, (b.length : Int), (b, ()), ())) (a0 := ()) (fun i x a hx => by
  have hlt := lt_of_get hx
  show r36_0 b (lenI b) (i : Int) (b, ()) = _
  unfold r36_0 bookStep
  rw [ltI_in hx, inB_in hx, gt_in _ hx]
  dsimp only [cond_true]
  rw [acct_s x (hb.2 x (List.mem_of_getElem? hx)), addW1 (by omega)]
  dsimp only [Option.bind_some]
  cases acctM x with
  | false => rfl
  | true =>
    by_cases h0 : 0 < i
    · rw [ltI_yes (show (0 : Int) < i by omega), subW_in (by omega) (by omega), prev_get hx h0]
      dsimp only [cond_true, cond_false, Bool.not_true]
      have e : gt d36 b ((i : Int) - 1) = gt ([], 0, 0, 0, 0, [], 0, 0, [], [], [], ()) b ((i : Int) - 1) := rfl
      rw [e, decide_eq_true h0]
      cases ltS (gt ([], 0, 0, 0, 0, [], 0, 0, [], [], [], ()) b ((i : Int) - 1)).1 x.1 <;> rfl
    · rw [ltI_no (show ¬ (0 : Int) < i by omega), decide_eq_false h0]; rfl) (fun a => by
  show r36_0 b (lenI b) (b.length : Int) (b, ()) = _
  unfold r36_0
  rw [ltI_out rfl]; rfl)
 rw [goL_allI] at h
 have h' : l36_0 b (lenI b) 0 (b, ()) = _ := h
 dsimp only
 rw [h']
 unfold bookM
 cases allI (bookStep b) 0 b <;> rfl
theorem book_i (b : List AcctT) (hb : BookB b) : g43 (b, ()) = some ((), ((bookM b, ()), ())) := by
 have hbig : big = 140737488355328 := rfl
 have hl := hb.1
 unfold g43
 have h := loop_list (step := fun (x : (List AcctT) × Int × Int × ((List AcctT) × Unit) × Unit) => r43_0 x.1 x.2.1 x.2.2.1 x.2.2.2.1) b (fun i (_ : Unit) => (b, lenI b, ((i : Nat) : Int), (b, ()), ())) (fun i x _ => bif bookStep b i x then Sum.inl () else .inr (.inr (false, ()))) (fun _ => .inl (b, lenI b, (b.length : Int), (b, ()), ())) (a0 := ()) (fun i x a hx => by
  have hlt := lt_of_get hx
  show r43_0 b (lenI b) (i : Int) (b, ()) = _
  unfold r43_0 bookStep
  rw [ltI_in hx, inB_in hx, gt_in _ hx]
  dsimp only [cond_true]
  rw [acct_i x (hb.2 x (List.mem_of_getElem? hx)), addW1 (by omega)]
  dsimp only [Option.bind_some]
  cases acctM x with
  | false => rfl
  | true =>
    by_cases h0 : 0 < i
    · rw [ltI_yes (show (0 : Int) < i by omega), subW_in (by omega) (by omega), prev_get hx h0]
      dsimp only [cond_true, cond_false, Bool.not_true]
      rw [leS_not]
      have e : gt d36 b ((i : Int) - 1) = gt ([], 0, 0, 0, 0, [], 0, 0, [], [], [], ()) b ((i : Int) - 1) := rfl
      rw [e, decide_eq_true h0]
      cases ltS (gt ([], 0, 0, 0, 0, [], 0, 0, [], [], [], ()) b ((i : Int) - 1)).1 x.1 <;> rfl
    · rw [ltI_no (show ¬ (0 : Int) < i by omega), decide_eq_false h0]; rfl) (fun a => by
  show r43_0 b (lenI b) (b.length : Int) (b, ()) = _
  unfold r43_0
  rw [ltI_out rfl]; rfl)
 rw [goL_allI] at h
 have h' : l43_0 b (lenI b) 0 (b, ()) = _ := h
 dsimp only
 rw [h']
 unfold bookM
 cases allI (bookStep b) 0 b <;> rfl
abbrev StripeT := Int × List AcctT × Unit
def sp (n : Nat) (m : Int) (b : List AcctT) : List StripeT := (List.range n).map fun (k : Nat) => ((-1 : Int), b.filter (fun a => eqI (stripeM a.1 m) (k : Int)), ())
def bookAtM (xs : List AcctT) (id : List UInt8) : Int := findI (fun y => eqS y.1 id) 0 xs
theorem bookAt_s (xs : List AcctT) (id : List UInt8) (hs : xs.length ≤ 1048576) : g38 (xs, ()) id = some ((), ((bookAtM xs id, ()), ())) := by
 have hbig : big = 140737488355328 := rfl
 unfold g38 bookAtM
 have h := loop_list (step := fun (z : (List UInt8) × (List AcctT) × Int × Int × Unit) => r38_0 z.1 z.2.1 z.2.2.1 z.2.2.2.1) xs (fun i (_ : Unit) => (id, xs, lenI xs, ((i : Nat) : Int), ())) (fun i y _ => bif eqS y.1 id then Sum.inr (.inr ((i : Int), ())) else Sum.inl ()) (fun _ => .inl (id, xs, lenI xs, (xs.length : Int), ())) (a0 := ()) (fun i y u hy => by
  have hlt := lt_of_get hy
  show r38_0 id xs (lenI xs) (i : Int) = _
  unfold r38_0
  rw [ltI_in hy, inB_in hy, gt_in _ hy, addW1 (by omega)]
  dsimp only [cond_true]
  cases eqS y.1 id <;> rfl) (fun u => by
  show r38_0 id xs (lenI xs) (xs.length : Int) = _
  unfold r38_0
  rw [ltI_out rfl]; rfl)
 have h' : l38_0 id xs (lenI xs) 0 = _ := h
 rw [h']
 have hf := goL_find (Y := Sum ((List UInt8) × (List AcctT) × Int × Int × Unit) (Int × Unit)) (fun (y : AcctT) => eqS y.1 id) (fun n => .inr (n, ())) (.inl (id, xs, lenI xs, (xs.length : Int), ())) (fun y => match y with | .inl _ => -1 | .inr z => z.1) (fun _ => rfl) rfl xs 0
 rw [← hf]
 dsimp only [Option.bind_some]
 cases goL _ _ 0 xs () <;> rfl
theorem bookAt_i (xs : List AcctT) (id : List UInt8) (hs : xs.length ≤ 1048576) : g46 (xs, ()) id = some ((), ((bookAtM xs id, ()), ())) := by
 have hbig : big = 140737488355328 := rfl
 unfold g46 g101 bookAtM
 have h := loop_list (step := fun (z : (List AcctT) × (((List UInt8) × Unit) × Unit) × Int × Int × Unit) => r101_0 z.1 z.2.1 z.2.2.1 z.2.2.2.1) xs (fun i (_ : Unit) => (xs, ((id, ()), ()), lenI xs, ((i : Nat) : Int), ())) (fun i y _ => bif eqS y.1 id then Sum.inr (.inr ((i : Int), ())) else Sum.inl ()) (fun _ => .inl (xs, ((id, ()), ()), lenI xs, (xs.length : Int), ())) (a0 := ()) (fun i y u hy => by
  have hlt := lt_of_get hy
  show r101_0 xs ((id, ()), ()) (lenI xs) (i : Int) = _
  unfold r101_0 g102
  rw [ltI_in hy, inB_in hy, gt_in _ hy, addW1 (by omega)]
  dsimp only [cond_true, Option.bind_some]
  cases eqS y.1 id <;> rfl) (fun u => by
  show r101_0 xs ((id, ()), ()) (lenI xs) (xs.length : Int) = _
  unfold r101_0
  rw [ltI_out rfl]; rfl)
 have h' : l101_0 xs ((id, ()), ()) (lenI xs) 0 = _ := h
 rw [h']
 have hf := goL_find (Y := Sum ((List AcctT) × (((List UInt8) × Unit) × Unit) × Int × Int × Unit) (Int × Unit)) (fun (y : AcctT) => eqS y.1 id) (fun n => .inr (n, ())) (.inl (xs, ((id, ()), ()), lenI xs, (xs.length : Int), ())) (fun y => match y with | .inl _ => -1 | .inr z => z.1) (fun _ => rfl) rfl xs 0
 rw [← hf]
 dsimp only [Option.bind_some]
 cases goL _ _ 0 xs () <;> rfl
theorem bookCp_s (xs : List AcctT) (hb : BookB xs) : g40 (xs, ()) = some ((), ((xs, ()), ())) := by
 have hbig : big = 140737488355328 := rfl
 have hs := hb.1
 unfold g40
 have h := loop_inv (step := fun (z : (List AcctT) × Int × Int × ((List AcctT) × Unit) × ((List AcctT) × Unit) × Unit) => r40_0 z.1 z.2.1 z.2.2.1 z.2.2.2.1 z.2.2.2.2.1) xs (fun i (a : List AcctT) => (xs, lenI xs, ((i : Nat) : Int), ([], ()), (a, ()), ())) (fun _ x a => Sum.inl (a ++ [x])) (fun a => .inl (xs, lenI xs, (xs.length : Int), ([], ()), (a, ()), ())) (fun i a => a.length = i) (a0 := []) rfl (fun i x a hx ha => by
  have hlt := lt_of_get hx
  have hm := hb.2 x (List.mem_of_getElem? hx)
  show r40_0 xs (lenI xs) (i : Int) ([], ()) (a, ()) = _
  unfold r40_0
  have e : ∀ y : AcctT, fitB 160 a [y] = true := fun y => Nat.ble_eq_true_of_le (by simp; omega)
  have e0 : gt d36 xs (i : Int) = x := gt_in _ hx
  rw [ltI_in hx, inB_in hx, e0]
  dsimp only [cond_true]
  rw [acctCp_s x hm]
  dsimp only [Option.bind_some]
  rw [e, addW1 (by omega)]
  rfl) (fun i x a a' hx ha hf => by
  simp only [Sum.inl.injEq] at hf
  rw [← hf, List.length_append, ha]; rfl) (fun a ha => by
  show r40_0 xs (lenI xs) (xs.length : Int) ([], ()) (a, ()) = _
  unfold r40_0
  rw [ltI_out rfl]; rfl)
 rw [goL_cp] at h
 have h' : l40_0 xs (lenI xs) 0 ([], ()) ([], ()) = _ := h
 rw [h']; rfl
theorem bookCp_i (xs : List AcctT) (hb : BookB xs) : g47 (xs, ()) = some ((), ((xs, ()), ())) := by
 have hbig : big = 140737488355328 := rfl
 have hs := hb.1
 unfold g47 g103
 have h := loop_inv (step := fun (z : Unit × (List AcctT) × Int × Int × ((List AcctT) × Unit) × ((List AcctT) × Unit) × Unit) => r103_0 z.1 z.2.1 z.2.2.1 z.2.2.2.1 z.2.2.2.2.1 z.2.2.2.2.2.1) xs (fun i (a : List AcctT) => ((), xs, lenI xs, ((i : Nat) : Int), ([], ()), (a, ()), ())) (fun _ x a => Sum.inl (a ++ [x])) (fun a => .inl ((), xs, lenI xs, (xs.length : Int), ([], ()), (a, ()), ())) (fun i a => a.length = i) (a0 := []) rfl (fun i x a hx ha => by
  have hlt := lt_of_get hx
  have hm := hb.2 x (List.mem_of_getElem? hx)
  show r103_0 () xs (lenI xs) (i : Int) ([], ()) (a, ()) = _
  unfold r103_0
  have e : ∀ y : AcctT, fitB 160 a [y] = true := fun y => Nat.ble_eq_true_of_le (by simp; omega)
  have e0 : gt d36 xs (i : Int) = x := gt_in _ hx
  rw [ltI_in hx, inB_in hx, e0]
  dsimp only [cond_true]
  rw [acctCp_i x hm]
  dsimp only [Option.bind_some]
  rw [e, addW1 (by omega)]
  rfl) (fun i x a a' hx ha hf => by
  simp only [Sum.inl.injEq] at hf
  rw [← hf, List.length_append, ha]; rfl) (fun a ha => by
  show r103_0 () xs (lenI xs) (xs.length : Int) ([], ()) (a, ()) = _
  unfold r103_0
  rw [ltI_out rfl]; rfl)
 rw [goL_cp] at h
 have h' : l103_0 () xs (lenI xs) 0 ([], ()) ([], ()) = _ := h
 rw [h']; rfl
abbrev ReqT := Int × (List UInt8) × (List UInt8) × (List UInt8) × (List UInt8) × (List UInt8) × Int × Int × Unit
theorem contains_i (xs : List (Int × Unit)) (v : Int) (hs : xs.length ≤ 1048576) : g152 xs v = some ((), ((leI 0 (findI (fun y => eqI v y.1) 0 xs), ()), ())) := by
 have hbig : big = 140737488355328 := rfl
 unfold g152 g184
 have h := loop_list (step := fun (z : (List (Int × Unit)) × Int × Int × Int × Unit) => r184_0 z.1 z.2.1 z.2.2.1 z.2.2.2.1) xs (fun i (_ : Unit) => (xs, v, lenI xs, ((i : Nat) : Int), ())) (fun i y _ => bif eqI v y.1 then Sum.inr (.inr ((i : Int), ())) else Sum.inl ()) (fun _ => .inl (xs, v, lenI xs, (xs.length : Int), ())) (a0 := ()) (fun i y u hy => by
  have hlt := lt_of_get hy
  show r184_0 xs v (lenI xs) (i : Int) = _
  unfold r184_0
  rw [ltI_in hy, inB_in hy, gt_in _ hy, addW1 (by omega)]
  dsimp only [cond_true]
  cases eqI v y.1 <;> rfl) (fun u => by
  show r184_0 xs v (lenI xs) (xs.length : Int) = _
  unfold r184_0
  rw [ltI_out rfl]; rfl)
 have h' : l184_0 xs v (lenI xs) 0 = _ := h
 rw [h']
 have hf := goL_find (Y := Sum ((List (Int × Unit)) × Int × Int × Int × Unit) (Int × Unit)) (fun (y : Int × Unit) => eqI v y.1) (fun n => .inr (n, ())) (.inl (xs, v, lenI xs, (xs.length : Int), ())) (fun y => match y with | .inl _ => -1 | .inr z => z.1) (fun _ => rfl) rfl xs 0
 rw [← hf]
 dsimp only [Option.bind_some]
 cases goL _ _ 0 xs () <;> rfl
def mtiM (op : Int) : List UInt8 := gt ([], ()) [([], ()), ([48, 49, 48, 48], ()), ([48, 49, 48, 48], ()), ([48, 50, 50, 48], ()), ([48, 50, 50, 48], ()), ([48, 50, 50, 48], ()), ([48, 50, 48, 48], ()), ([48, 49, 48, 48], ()), ([48, 50, 48, 48], ())] op |>.1
def reqM (q : ReqT) : Bool := inM q.1 1 8 && eqS q.2.2.2.2.2.1 (mtiM q.1) && acctIdM q.2.1 && digitsM q.2.2.2.2.1 && eqI (lenI q.2.2.2.2.1) 6 && (cond (ltI q.1 7) (holdIdM q.2.2.2.1) (eqS q.2.2.2.1 [])) && (cond (ltI q.1 5) (inM q.2.2.2.2.2.2.1 0 999999999999) (eqI q.2.2.2.2.2.2.1 0)) && (cond (eqI q.1 1) (inM q.2.2.2.2.2.2.2.1 0 9999) (eqI q.2.2.2.2.2.2.2.1 0)) && (cond (eqI q.1 6) (acctIdM q.2.2.1) (eqS q.2.2.1 []))
def ReqB (q : ReqT) : Prop := q.2.1.length ≤ 1048576 ∧ q.2.2.1.length ≤ 1048576 ∧ q.2.2.2.1.length ≤ 1048576 ∧ q.2.2.2.2.1.length ≤ 1048576 ∧ q.2.2.2.2.2.1.length ≤ 1048576
theorem op_cases {op : Int} (h : inM op 1 8 = true) : op = 1 ∨ op = 2 ∨ op = 3 ∨ op = 4 ∨ op = 5 ∨ op = 6 ∨ op = 7 ∨ op = 8 := by
 have := inM_iff.1 h
 omega
theorem req_s (q : ReqT) (hb : ReqB q) : g37 q = some ((), ((reqM q, ()), ())) := by
 obtain ⟨op, acct, other, hold, trace, mti, amt, ttl, _⟩ := q
 obtain ⟨b1, b2, b3, b4, b5⟩ := hb
 cases hop : inM op 1 8 with
 | false =>
   unfold g37 g82 reqM
   rw [in_s, hop]; rfl
 | true =>
   have k1 := acctId_s acct (le_big b1)
   have k2 := acctId_s other (le_big b2)
   have k3 := holdId_s hold (le_big b3)
   have k4 := digits_s trace (le_big b4)
   have k5 : g82 op = some ((), ((true, ()), ())) := by unfold g82; rw [in_s, hop]; rfl
   have k6 : g83 op = some ((), ((mtiM op, ()), ())) := by
    unfold g83
    rw [k5]
    rcases op_cases hop with h | h | h | h | h | h | h | h <;> subst h <;> rfl
   have k7 : g85 op = some ((), ((ltI op 7, ()), ())) := by unfold g85; rw [k5]; rfl
   have k8 : g87 op = some ((), ((ltI op 5, ()), ())) := by
    unfold g87
    rw [in_s]
    rcases op_cases hop with h | h | h | h | h | h | h | h <;> subst h <;> rfl
   have k9 := in_s amt 0 999999999999
   have k10 := in_s ttl 0 9999
   unfold g37 reqM
   dsimp only
   rw [k5, k6, k1, k4, k7, k8, k3, k9, k10, k2]
   dsimp only [Option.bind_some]
   rw [hop]
   cases eqS mti (mtiM op) <;> first | rfl | skip
   cases acctIdM acct <;> first | rfl | skip
   cases digitsM trace <;> first | rfl | skip
   cases eqI (lenI trace) 6 <;> first | rfl | skip
   cases ltI op 7 <;> cases holdIdM hold <;> cases eqS hold [] <;> first | rfl | skip
   all_goals (cases ltI op 5 <;> cases inM amt 0 999999999999 <;> cases eqI amt 0 <;> first | rfl | skip)
   all_goals (cases eqI op 1 <;> cases inM ttl 0 9999 <;> cases eqI ttl 0 <;> first | rfl | skip)
   all_goals (cases eqI op 6 <;> cases acctIdM other <;> rfl)
theorem uses_i {op : Int} (hop : inM op 1 8 = true) : g99 op 38 = some ((), ((ltI op 7, ()), ())) ∧ g99 op 4 = some ((), ((ltI op 5, ()), ())) ∧ g99 op 14 = some ((), ((eqI op 1, ()), ())) ∧ g99 op 103 = some ((), ((eqI op 6, ()), ())) := by
 unfold g99 g96
 rw [in_i, hop]
 rcases op_cases hop with h | h | h | h | h | h | h | h <;> subst h <;> refine ⟨?_, ?_, ?_, ?_⟩ <;> (refine (congrArg (fun z => Option.bind z fun y2 => some ((), (y2.2.1, ()))) (contains_i _ _ ?_)).trans ?_) <;> first | rfl | decide
theorem opOf_i {op : Int} (hop : inM op 1 8 = true) : ∃ (nm : List UInt8 × List UInt8) (fs : List (Int × Unit)), g96 op = some ((), ((mtiM op, nm.1, nm.2, fs, ()), ())) ∧ eqS nm.2 [] = false := by
 unfold g96
 rw [in_i, hop]
 rcases op_cases hop with h | h | h | h | h | h | h | h <;> subst h <;> exact ⟨(_, _), _, rfl, rfl⟩
theorem req_i (q : ReqT) (hb : ReqB q) : g44 q = some ((), ((reqM q, ()), ())) := by
 obtain ⟨op, acct, other, hold, trace, mti, amt, ttl, _⟩ := q
 obtain ⟨b1, b2, b3, b4, b5⟩ := hb
 cases hop : inM op 1 8 with
 | false =>
   unfold g44 g96 reqM
   rw [in_i, hop]; rfl
 | true =>
   have k1 := acctId_i acct (le_big b1)
   have k2 := acctId_i other (le_big b2)
   have k3 := holdId_i hold (le_big b3)
   have k4 : g98 trace 6 = some ((), ((cond (digitsM trace) (eqI (lenI trace) 6) false, ()), ())) := by unfold g98; rw [digits_i trace (le_big b4)]; rfl
   obtain ⟨nm, fs, k5, k6⟩ := opOf_i hop
   obtain ⟨u1, u2, u3, u4⟩ := uses_i hop
   have k9 := in_i amt 0 999999999999
   have k10 := in_i ttl 0 9999
   unfold g44 reqM
   dsimp only
   rw [k5, k1, k4, u1, u2, u3, u4, k3, k9, k10, k2]
   dsimp only [Option.bind_some]
   rw [hop, k6]
   cases eqS mti (mtiM op) <;> first | rfl | skip
   cases acctIdM acct <;> first | rfl | skip
   cases digitsM trace <;> first | rfl | skip
   cases eqI (lenI trace) 6 <;> first | rfl | skip
   cases ltI op 7 <;> cases holdIdM hold <;> cases eqS hold [] <;> cases ltI op 5 <;> cases inM amt 0 999999999999 <;> cases eqI amt 0 <;> cases eqI op 1 <;> cases inM ttl 0 9999 <;> cases eqI ttl 0 <;> cases eqI op 6 <;> cases acctIdM other <;> cases eqS other [] <;> rfl
def withP (a : AcctT) (p : Int) (l : List HoldT) : AcctT := (a.1, a.2.1, p, a.2.2.2.1, a.2.2.2.2.1, l, a.2.2.2.2.2.2.1, a.2.2.2.2.2.2.2.1, a.2.2.2.2.2.2.2.2.1, a.2.2.2.2.2.2.2.2.2.1, a.2.2.2.2.2.2.2.2.2.2.1, ())
def capM (a : AcctT) (id : List UInt8) (amt : Int) (last : Bool) (now : Int) : AcctT × Int :=
 cond (cond (acctM a) (cond (timeM now) (holdIdM id) false) false)
  (cond (inM amt 1 9007199254740992)
    (cond (ltI (holdAtM (sweptM a now).2.2.2.2.2.1 id) 0) (acct0, 5)
      (cond (ltI (gt hd0 (sweptM a now).2.2.2.2.2.1 (holdAtM (sweptM a now).2.2.2.2.2.1 id)).2.1 amt) (acct0, 7)
        (cond (cond last true (eqI amt (gt hd0 (sweptM a now).2.2.2.2.2.1 (holdAtM (sweptM a now).2.2.2.2.2.1 id)).2.1))
          (withP (sweptM a now) (addW .i64 (sweptM a now).2.2.1 amt) ((sweptM a now).2.2.2.2.2.1.filter (keepM id)), 0)
          (withP (sweptM a now) (addW .i64 (sweptM a now).2.2.1 amt) (stI (sweptM a now).2.2.2.2.2.1 (holdAtM (sweptM a now).2.2.2.2.2.1 id) ((gt hd0 (sweptM a now).2.2.2.2.2.1 (holdAtM (sweptM a now).2.2.2.2.2.1 id)).1, subW .i64 (gt hd0 (sweptM a now).2.2.2.2.2.1 (holdAtM (sweptM a now).2.2.2.2.2.1 id)).2.1 amt, (gt hd0 (sweptM a now).2.2.2.2.2.1 (holdAtM (sweptM a now).2.2.2.2.2.1 id)).2.2.1, ())), 0))))
    (acct0, 4))
  (acct0, 1)
theorem cap_s (a : AcctT) (id : List UInt8) (amt : Int) (last : Bool) (now : Int) (hb : AcctB a) (hi : id.length ≤ 1048576) : g90 a id amt last now = some ((), ((capM a id amt last now).1, ((capM a id amt last now).2, ()), ())) := by
 have hsb := swept_b now hb
 unfold g90 g142 capM
 rw [acct_s a hb, time_s, holdId_s id (le_big hi), in_s, swept_s a now hb]
 dsimp only [Option.bind_some]
 generalize sweptM a now = s at hsb ⊢
 rw [holdAt_s _ id hsb.2.1.1, drop_s _ id hsb.2.1.1]
 dsimp only [Option.bind_some]
 cases acctM a <;> first | rfl | skip
 cases timeM now <;> first | rfl | skip
 cases holdIdM id <;> first | rfl | skip
 cases inM amt 1 9007199254740992 <;> first | rfl | skip
 dsimp only [cond_true, cond_false, Bool.not_true, Option.bind_some]
 by_cases hat : holdAtM s.2.2.2.2.2.1 id < 0
 · rw [ltI_yes hat]; rfl
 · rw [ltI_no hat, holdAt_in hat]
   dsimp only [cond_true, cond_false]
   have eh : gt d108 s.2.2.2.2.2.1 (holdAtM s.2.2.2.2.2.1 id) = gt hd0 s.2.2.2.2.2.1 (holdAtM s.2.2.2.2.2.1 id) := rfl
   rw [eh]
   cases ltI (gt hd0 s.2.2.2.2.2.1 (holdAtM s.2.2.2.2.2.1 id)).2.1 amt <;> first | rfl | skip
   cases last <;> first | rfl | skip
   cases eqI amt (gt hd0 s.2.2.2.2.2.1 (holdAtM s.2.2.2.2.2.1 id)).2.1 <;> rfl
theorem holdAt_get {xs : List HoldT} {id : List UInt8} (h : ¬ holdAtM xs id < 0) : ∃ (i : Nat) (y : HoldT), holdAtM xs id = (i : Int) ∧ xs[i]? = some y ∧ y.1 = id := by
 have hne : findI (fun (y : HoldT) => eqS y.1 id) 0 xs ≠ -1 := fun e => by unfold holdAtM at h; rw [e] at h; omega
 obtain ⟨i, y, h1, h2, h3, _⟩ := findI_some _ _ _ hne
 refine ⟨i, y, by unfold holdAtM; rw [h1, Nat.zero_add], h2, by simpa [eqS] using h3⟩
theorem filter_set {id : List UInt8} : ∀ (xs : List HoldT) (i : Nat) (y z : HoldT), xs[i]? = some y → y.1 = id → z.1 = id → (xs.set i z).filter (keepM id) = xs.filter (keepM id)
 | [], i, y, z, h, _, _ => by simp at h
 | x :: r, 0, y, z, h, h1, h2 => by
   simp only [List.getElem?_cons_zero, Option.some.injEq] at h
   subst h
   have e1 : keepM id x = false := by unfold keepM eqS; rw [h1]; simp
   have e2 : keepM id z = false := by unfold keepM eqS; rw [h2]; simp
   rw [List.set_cons_zero, List.filter_cons, List.filter_cons, e1, e2]; rfl
 | x :: r, i + 1, y, z, h, h1, h2 => by
   rw [List.set_cons_succ, List.filter_cons, List.filter_cons, filter_set r i y z (by simpa using h) h1 h2]
theorem cap_i (a : AcctT) (id : List UInt8) (amt : Int) (last : Bool) (now : Int) (hb : AcctB a) (hi : id.length ≤ 1048576) : g50 a id amt last now = some ((), ((capM a id amt last now).1, ((capM a id amt last now).2, ()), ())) := by
 have hsb := swept_b now hb
 have hok := fun h => swept_ok (a := a) now h
 unfold g50 g109 g29 capM
 rw [acct_i a hb, time_i, holdId_i id (le_big hi), in_i, swept_i a now hb]
 dsimp only [Option.bind_some]
 generalize sweptM a now = s at hsb hok ⊢
 have h2 := holdAt_i s.2.2.2.2.2.1 id hsb.2.1.1
 have h0 := holdAt_i [] id (by decide)
 cases hac : acctM a with
 | false =>
   simp only [cond_true, cond_false, Bool.not_true, Bool.not_false, Option.bind_some]
   rw [h0]; rfl
 | true =>
 cases timeM now with
 | false =>
   simp only [cond_true, cond_false, Bool.not_true, Bool.not_false, Option.bind_some]
   rw [h0]; rfl
 | true =>
 simp only [cond_true, cond_false, Bool.not_true, Bool.not_false, Option.bind_some]
 rw [h2]
 dsimp only [Option.bind_some]
 cases holdIdM id with
 | false => rfl
 | true =>
 cases ham : inM amt 1 9007199254740992 with
 | false => rfl
 | true =>
 by_cases hat : holdAtM s.2.2.2.2.2.1 id < 0
 · rw [ltI_yes hat]; rfl
 · have e00 : eqI 0 0 = true := rfl
   rw [ltI_no hat, e00]
   simp only [cond_true, cond_false, Bool.not_true, Bool.not_false, Option.bind_some]
   have hin := holdAt_in hat
   obtain ⟨i, y, q1, q2, q3⟩ := holdAt_get hat
   have eh : gt d108 s.2.2.2.2.2.1 (holdAtM s.2.2.2.2.2.1 id) = y := by rw [q1]; exact gt_in _ q2
   have eh2 : gt hd0 s.2.2.2.2.2.1 (holdAtM s.2.2.2.2.2.1 id) = y := by rw [q1]; exact gt_in _ q2
   have hyb : 1 ≤ y.2.1 ∧ y.2.1 ≤ 9007199254740992 := by
    have hs := hok hac
    have hh : holdsM s.2.2.2.2.2.1 = true := by
     unfold acctM at hs
     cases hm : holdsM s.2.2.2.2.2.1 with
     | true => rfl
     | false =>
       rw [hm] at hs
       revert hs
       cases acctIdM s.1 <;> cases inM s.2.1 0 9007199254740992 <;> cases inM s.2.2.2.1 0 1000 <;> cases inM s.2.2.2.2.1 0 9007199254740992 <;> cases moneyM s.2.2.1 <;> simp
    have hm := holdsM_all hh y (List.mem_of_getElem? q2)
    unfold holdM at hm
    cases hi1 : inM y.2.1 1 9007199254740992 with
    | true => exact inM_iff.1 hi1
    | false => rw [hi1] at hm; revert hm; cases holdIdM y.1 <;> simp
   have hamb := inM_iff.1 ham
   rw [eh, eh2, hin]
   simp only [cond_true, cond_false]
   by_cases hlt : y.2.1 < amt
   · rw [ltI_yes hlt]; rfl
   · rw [ltI_no hlt]
     simp only [cond_true, cond_false]
     have hsub : subW .i64 y.2.1 amt = y.2.1 - amt := subW_in (by omega) (by omega)
     have hst : stI s.2.2.2.2.2.1 (holdAtM s.2.2.2.2.2.1 id) (y.1, subW .i64 y.2.1 amt, y.2.2.1, ()) = s.2.2.2.2.2.1.set i (y.1, subW .i64 y.2.1 amt, y.2.2.1, ()) := by
      rw [q1]; rfl
     have hil := lt_of_get q2
     have hget : (s.2.2.2.2.2.1.set i (y.1, subW .i64 y.2.1 amt, y.2.2.1, ()))[i]? = some (y.1, subW .i64 y.2.1 amt, y.2.2.1, ()) := by rw [List.getElem?_set_self hil]
     have hin2 : inB (holdAtM s.2.2.2.2.2.1 id) (stI s.2.2.2.2.2.1 (holdAtM s.2.2.2.2.2.1 id) (y.1, subW .i64 y.2.1 amt, y.2.2.1, ())) = true := by rw [hst, q1]; exact inB_in hget
     have hg2 : gt d108 (stI s.2.2.2.2.2.1 (holdAtM s.2.2.2.2.2.1 id) (y.1, subW .i64 y.2.1 amt, y.2.2.1, ())) (holdAtM s.2.2.2.2.2.1 id) = (y.1, subW .i64 y.2.1 amt, y.2.2.1, ()) := by rw [hst, q1]; exact gt_in _ hget
     have hdr : g110 (stI s.2.2.2.2.2.1 (holdAtM s.2.2.2.2.2.1 id) (y.1, subW .i64 y.2.1 amt, y.2.2.1, ())) id = some ((), ((s.2.2.2.2.2.1.filter (keepM id), ()), ())) := by
      rw [hst, drop_i _ id (by rw [List.length_set]; exact hsb.2.1.1), filter_set _ i y (y.1, subW .i64 y.2.1 amt, y.2.2.1, ()) q2 q3 q3]
     have hz : eqI (subW .i64 y.2.1 amt) 0 = eqI amt y.2.1 := by
      rw [hsub]
      by_cases e : amt = y.2.1
      · rw [eqI_iff.2 e, eqI_iff.2 (by omega)]
      · rw [eqI_no e, eqI_no (by omega)]
     rw [e00, hin2, hg2]
     simp only [cond_true, cond_false, Bool.not_true]
     rw [hdr, hz]
     cases eqI amt y.2.1 <;> cases last <;> rfl
def freeM (a : AcctT) (id : List UInt8) (now : Int) : AcctT × Int :=
 cond (cond (acctM a) (cond (timeM now) (holdIdM id) false) false)
  (cond (ltI (holdAtM (sweptM a now).2.2.2.2.2.1 id) 0) (acct0, 5)
    (withP (sweptM a now) (sweptM a now).2.2.1 ((sweptM a now).2.2.2.2.2.1.filter (keepM id)), 0))
  (acct0, 1)
theorem free_s (a : AcctT) (id : List UInt8) (now : Int) (hb : AcctB a) (hi : id.length ≤ 1048576) : g91 a id now = some ((), ((freeM a id now).1, ((freeM a id now).2, ()), ())) := by
 have hsb := swept_b now hb
 unfold g91 g142 freeM
 rw [acct_s a hb, time_s, holdId_s id (le_big hi), swept_s a now hb]
 dsimp only [Option.bind_some]
 generalize sweptM a now = s at hsb ⊢
 rw [holdAt_s _ id hsb.2.1.1, drop_s _ id hsb.2.1.1]
 dsimp only [Option.bind_some]
 cases acctM a <;> first | rfl | skip
 cases timeM now <;> first | rfl | skip
 cases holdIdM id <;> first | rfl | skip
 dsimp only [cond_true, cond_false, Bool.not_true, Option.bind_some]
 cases ltI (holdAtM s.2.2.2.2.2.1 id) 0 <;> rfl
theorem free_i (a : AcctT) (id : List UInt8) (now : Int) (hb : AcctB a) (hi : id.length ≤ 1048576) : g51 a id now = some ((), ((freeM a id now).1, ((freeM a id now).2, ()), ())) := by
 have hsb := swept_b now hb
 unfold g51 g109 g29 freeM
 rw [acct_i a hb, time_i, holdId_i id (le_big hi), in_i, swept_i a now hb]
 dsimp only [Option.bind_some]
 generalize sweptM a now = s at hsb ⊢
 have h2 := holdAt_i s.2.2.2.2.2.1 id hsb.2.1.1
 have h3 := drop_i s.2.2.2.2.2.1 id hsb.2.1.1
 have h0 := holdAt_i [] id (by decide)
 have e1 : inM 1 1 9007199254740992 = true := rfl
 cases acctM a with
 | false =>
   simp only [cond_true, cond_false, Bool.not_true, Bool.not_false, Option.bind_some]
   rw [h0]; rfl
 | true =>
 cases timeM now with
 | false =>
   simp only [cond_true, cond_false, Bool.not_true, Bool.not_false, Option.bind_some]
   rw [h0]; rfl
 | true =>
 simp only [cond_true, cond_false, Bool.not_true, Bool.not_false, Option.bind_some]
 rw [h2]
 dsimp only [Option.bind_some]
 cases holdIdM id with
 | false => rfl
 | true =>
 have e00 : eqI 0 0 = true := rfl
 rw [e00, e1]
 simp only [cond_true, cond_false, Bool.not_true, Bool.not_false, Option.bind_some]
 cases ltI (holdAtM s.2.2.2.2.2.1 id) 0 with
 | true => rfl
 | false =>
   simp only [cond_true, cond_false, Bool.not_true, Bool.not_false, Option.bind_some]
   rw [e00]
   simp only [cond_true, cond_false, Bool.not_true, Bool.not_false, Option.bind_some]
   rw [h3]; rfl
def sweepM (a : AcctT) (now : Int) : AcctT × Int := cond (acctM a) (cond (timeM now) (sweptM a now, 0) (acct0, 1)) (acct0, 1)
theorem sweep_s (a : AcctT) (now : Int) (hb : AcctB a) : g93 a now = some ((), ((sweepM a now).1, ((sweepM a now).2, ()), ())) := by
 unfold g93 sweepM
 rw [acct_s a hb, time_s, swept_s a now hb]
 dsimp only [Option.bind_some]
 cases acctM a <;> first | rfl | skip
 cases timeM now <;> rfl
theorem sweep_i (a : AcctT) (now : Int) (hb : AcctB a) : g53 a now = some ((), ((sweepM a now).1, ((sweepM a now).2, ()), ())) := by
 unfold g53 sweepM
 rw [begin_i a now hb]
 cases acctM a <;> first | rfl | skip
 cases timeM now <;> rfl
theorem bookAt_in {b : List AcctT} {id : List UInt8} (h : ¬ bookAtM b id < 0) : ∃ (i : Nat) (y : AcctT), bookAtM b id = (i : Int) ∧ b[i]? = some y := by
 have hne : findI (fun (y : AcctT) => eqS y.1 id) 0 b ≠ -1 := fun e => by unfold bookAtM at h; rw [e] at h; omega
 obtain ⟨i, y, h1, h2, h3, _⟩ := findI_some _ _ _ hne
 exact ⟨i, y, by unfold bookAtM; rw [h1, Nat.zero_add], h2⟩
theorem holdM_len {y : HoldT} (h : holdM y = true) : y.1.length ≤ 1048576 := by
 unfold holdM at h
 cases hi : holdIdM y.1 with
 | false => rw [hi] at h; simp at h
 | true =>
   unfold holdIdM at hi
   cases ha : y.1.all holdChM with
   | false => rw [ha] at hi; simp at hi
   | true =>
     rw [ha] at hi
     have := inM_iff.1 (show inM (lenI y.1) 1 6 = true from hi)
     unfold lenI at this; omega
theorem put_bd (xs : List HoldT) (h : HoldT) : (holdPutM xs h).1.length ≤ 1048576 ∧ ∀ y ∈ (holdPutM xs h).1, y.1.length ≤ 1048576 := by
 unfold holdPutM
 cases holdsM xs with
 | false => exact ⟨Nat.zero_le _, fun y hy => by simp at hy⟩
 | true =>
   cases hp : holdsM (putM xs h) with
   | false => exact ⟨Nat.zero_le _, fun y hy => by simp at hy⟩
   | true =>
     have := holdsM_len hp
     exact ⟨by show (putM xs h).length ≤ _; omega, fun y hy => holdM_len (holdsM_all hp y hy)⟩
theorem ringAdd_b {r : RingT} (now amt : Int) (h : RingB r) : RingB (ringAddM r now amt) := by
 have := ringAdd_len r now amt
 unfold RingB at h ⊢
 rw [this.1, this.2]; exact h
theorem acctB0 : AcctB acct0 := ⟨by decide, ⟨by decide, fun y hy => by simp [acct0] at hy⟩, ⟨by decide, by decide⟩, by decide, fun y hy => by simp [acct0] at hy⟩
theorem auth_b {a : AcctT} (id : List UInt8) (amt ttl now : Int) (hb : AcctB a) : AcctB (authM a id amt ttl now).1 := by
 have hsb := swept_b now hb
 unfold authM
 generalize sweptM a now = s at hsb ⊢
 have hp := put_bd s.2.2.2.2.2.1 (id, amt, addW .i64 now ttl, ())
 have hr := ringAdd_b now amt hsb.2.2.1
 cases cond (acctM a) (cond (timeM now) (holdIdM id) false) false <;> first | exact acctB0 | skip
 cases inM amt 1 9007199254740992 <;> first | exact acctB0 | skip
 dsimp only [cond_true]
 cases (cond (!inM ttl 1 9999) true (ltI 1000000000 (addW .i64 now ttl))) <;> first | exact acctB0 | skip
 cases leI 0 (holdAtM s.2.2.2.2.2.1 id) <;> first | exact acctB0 | skip
 cases eqI (lenI s.2.2.2.2.2.1) 4 <;> first | exact acctB0 | skip
 cases eqI (fitsM s amt now) 0 <;> first | exact acctB0 | skip
 exact ⟨hsb.1, hp, hr, hsb.2.2.2.1, hsb.2.2.2.2⟩
theorem set_b {xs : List HoldT} {k : Int} {z : HoldT} (h : xs.length ≤ 1048576 ∧ ∀ y ∈ xs, y.1.length ≤ 1048576) (hz : z.1.length ≤ 1048576) : (stI xs k z).length ≤ 1048576 ∧ ∀ y ∈ stI xs k z, y.1.length ≤ 1048576 := by
 unfold stI
 refine ⟨by rw [List.length_set]; exact h.1, fun y hy => ?_⟩
 rcases List.mem_or_eq_of_mem_set hy with hy | hy
 · exact h.2 y hy
 · rw [hy]; exact hz
theorem filter_b {xs : List HoldT} (p : HoldT → Bool) (h : xs.length ≤ 1048576 ∧ ∀ y ∈ xs, y.1.length ≤ 1048576) : (xs.filter p).length ≤ 1048576 ∧ ∀ y ∈ xs.filter p, y.1.length ≤ 1048576 :=
 ⟨Nat.le_trans (List.length_filter_le _ _) h.1, fun y hy => h.2 y (List.mem_filter.1 hy).1⟩
theorem more_b {a : AcctT} (id : List UInt8) (amt now : Int) (hb : AcctB a) : AcctB (moreM a id amt now).1 := by
 have hsb := swept_b now hb
 unfold moreM
 generalize sweptM a now = s at hsb ⊢
 have hg := gt_hd (k := holdAtM s.2.2.2.2.2.1 id) hsb.2.1.2
 have hp := fun v => set_b (k := holdAtM s.2.2.2.2.2.1 id) (z := ((gt hd0 s.2.2.2.2.2.1 (holdAtM s.2.2.2.2.2.1 id)).1, v, (gt hd0 s.2.2.2.2.2.1 (holdAtM s.2.2.2.2.2.1 id)).2.2.1, ())) hsb.2.1 hg
 have hr := ringAdd_b now amt hsb.2.2.1
 cases cond (acctM a) (cond (timeM now) (holdIdM id) false) false <;> first | exact acctB0 | skip
 cases inM amt 1 9007199254740992 <;> first | exact acctB0 | skip
 cases ltI (holdAtM s.2.2.2.2.2.1 id) 0 <;> first | exact acctB0 | skip
 cases eqI (fitsM s amt now) 0 <;> first | exact acctB0 | skip
 exact ⟨hsb.1, hp _, hr, hsb.2.2.2.1, hsb.2.2.2.2⟩
theorem cap_b {a : AcctT} (id : List UInt8) (amt : Int) (last : Bool) (now : Int) (hb : AcctB a) : AcctB (capM a id amt last now).1 := by
 have hsb := swept_b now hb
 unfold capM
 generalize sweptM a now = s at hsb ⊢
 have hg := gt_hd (k := holdAtM s.2.2.2.2.2.1 id) hsb.2.1.2
 have hp := fun v => set_b (k := holdAtM s.2.2.2.2.2.1 id) (z := ((gt hd0 s.2.2.2.2.2.1 (holdAtM s.2.2.2.2.2.1 id)).1, v, (gt hd0 s.2.2.2.2.2.1 (holdAtM s.2.2.2.2.2.1 id)).2.2.1, ())) hsb.2.1 hg
 have hf := filter_b (keepM id) hsb.2.1
 cases cond (acctM a) (cond (timeM now) (holdIdM id) false) false <;> first | exact acctB0 | skip
 cases inM amt 1 9007199254740992 <;> first | exact acctB0 | skip
 cases ltI (holdAtM s.2.2.2.2.2.1 id) 0 <;> first | exact acctB0 | skip
 cases ltI (gt hd0 s.2.2.2.2.2.1 (holdAtM s.2.2.2.2.2.1 id)).2.1 amt <;> first | exact acctB0 | skip
 dsimp only [cond_true, cond_false]
 cases (cond last true (eqI amt (gt hd0 s.2.2.2.2.2.1 (holdAtM s.2.2.2.2.2.1 id)).2.1))
 · exact ⟨hsb.1, hp _, hsb.2.2.1, hsb.2.2.2.1, hsb.2.2.2.2⟩
 · exact ⟨hsb.1, hf, hsb.2.2.1, hsb.2.2.2.1, hsb.2.2.2.2⟩
theorem free_b {a : AcctT} (id : List UInt8) (now : Int) (hb : AcctB a) : AcctB (freeM a id now).1 := by
 have hsb := swept_b now hb
 unfold freeM
 generalize sweptM a now = s at hsb ⊢
 have hf := filter_b (keepM id) hsb.2.1
 cases cond (acctM a) (cond (timeM now) (holdIdM id) false) false <;> first | exact acctB0 | skip
 cases ltI (holdAtM s.2.2.2.2.2.1 id) 0 <;> first | exact acctB0 | skip
 exact ⟨hsb.1, hf, hsb.2.2.1, hsb.2.2.2.1, hsb.2.2.2.2⟩
theorem move_b {a b : AcctT} (id : List UInt8) (now : Int) (hb : AcctB a) (hc : AcctB b) : AcctB (moveM a b id now).1 ∧ AcctB (moveM a b id now).2.1 := by
 have hsb := swept_b now hb
 have hsc := swept_b now hc
 have h00 : AcctB acct0 ∧ AcctB acct0 := ⟨acctB0, acctB0⟩
 unfold moveM
 generalize sweptM a now = s at hsb ⊢
 generalize sweptM b now = t at hsc ⊢
 have hf := filter_b (keepM id) hsb.2.1
 have hp := put_bd t.2.2.2.2.2.1 (gt hd0 s.2.2.2.2.2.1 (holdAtM s.2.2.2.2.2.1 id))
 cases cond (acctM a) (cond (timeM now) (holdIdM id) false) false <;> first | exact h00 | skip
 cases acctM b <;> first | exact h00 | skip
 cases eqS a.1 b.1 <;> first | exact h00 | skip
 cases ltI (holdAtM s.2.2.2.2.2.1 id) 0 <;> first | exact h00 | skip
 cases leI 0 (holdAtM t.2.2.2.2.2.1 id) <;> first | exact h00 | skip
 cases eqI (lenI t.2.2.2.2.2.1) 4 <;> first | exact h00 | skip
 cases ltI (roomM t now) (gt hd0 s.2.2.2.2.2.1 (holdAtM s.2.2.2.2.2.1 id)).2.1 <;> first | exact h00 | skip
 exact ⟨⟨hsb.1, hf, hsb.2.2.1, hsb.2.2.2.1, hsb.2.2.2.2⟩, ⟨hsc.1, hp, hsc.2.2.1, hsc.2.2.2.1, hsc.2.2.2.2⟩⟩
theorem sweep_b {a : AcctT} (now : Int) (hb : AcctB a) : AcctB (sweepM a now).1 := by
 have hsb := swept_b now hb
 unfold sweepM
 cases acctM a <;> first | exact acctB0 | skip
 cases timeM now <;> first | exact acctB0 | exact hsb
def opM (a b : AcctT) (q : ReqT) (now : Int) : AcctT × AcctT × Int × List UInt8 :=
 cond (eqI q.1 1) ((authM a q.2.2.2.1 q.2.2.2.2.2.2.1 q.2.2.2.2.2.2.2.1 now).1, b, (authM a q.2.2.2.1 q.2.2.2.2.2.2.1 q.2.2.2.2.2.2.2.1 now).2, [])
  (cond (eqI q.1 2) ((moreM a q.2.2.2.1 q.2.2.2.2.2.2.1 now).1, b, (moreM a q.2.2.2.1 q.2.2.2.2.2.2.1 now).2, [])
    (cond (eqI q.1 3) ((capM a q.2.2.2.1 q.2.2.2.2.2.2.1 (eqI q.1 4) now).1, b, (capM a q.2.2.2.1 q.2.2.2.2.2.2.1 (eqI q.1 4) now).2, [])
      (cond (eqI q.1 4) ((capM a q.2.2.2.1 q.2.2.2.2.2.2.1 (eqI q.1 4) now).1, b, (capM a q.2.2.2.1 q.2.2.2.2.2.2.1 (eqI q.1 4) now).2, [])
        (cond (eqI q.1 5) ((freeM a q.2.2.2.1 now).1, b, (freeM a q.2.2.2.1 now).2, [])
          (cond (eqI q.1 6) ((moveM a b q.2.2.2.1 now).1, (moveM a b q.2.2.2.1 now).2.1, (moveM a b q.2.2.2.1 now).2.2, [])
            (cond (eqI q.1 7) (a, b, (askM a now).2, (askM a now).1)
              ((sweepM a now).1, b, (sweepM a now).2, [])))))))
theorem op_s (a b : AcctT) (q : ReqT) (now : Int) (hb : AcctB a) (hc : AcctB b) (hi : q.2.2.2.1.length ≤ 1048576) : g39 a b q now = some ((), ((opM a b q now).1, (opM a b q now).2.1, ((opM a b q now).2.2.1, ()), ((opM a b q now).2.2.2, ()), ())) := by
 unfold g39 opM
 rw [auth_s a _ _ _ now hb hi, more_s a _ _ now hb hi, cap_s a _ _ _ now hb hi, free_s a _ now hb hi, move_s a b _ now hb hc hi, ask_s a now hb, sweep_s a now hb]
 cases eqI q.1 1 <;> first | rfl | skip
 cases eqI q.1 2 <;> first | rfl | skip
 cases eqI q.1 3 <;> first | rfl | skip
 cases eqI q.1 4 <;> first | rfl | skip
 cases eqI q.1 5 <;> first | rfl | skip
 cases eqI q.1 6 <;> first | rfl | skip
 cases eqI q.1 7 <;> rfl
theorem op_b {a b : AcctT} (q : ReqT) (now : Int) (hb : AcctB a) (hc : AcctB b) : AcctB (opM a b q now).1 ∧ AcctB (opM a b q now).2.1 := by
 unfold opM
 cases eqI q.1 1 <;> first | exact ⟨auth_b _ _ _ now hb, hc⟩ | skip
 cases eqI q.1 2 <;> first | exact ⟨more_b _ _ now hb, hc⟩ | skip
 cases eqI q.1 3 <;> first | exact ⟨cap_b _ _ _ now hb, hc⟩ | skip
 cases eqI q.1 4 <;> first | exact ⟨cap_b _ _ _ now hb, hc⟩ | skip
 cases eqI q.1 5 <;> first | exact ⟨free_b _ now hb, hc⟩ | skip
 cases eqI q.1 6 <;> first | exact move_b _ now hb hc | skip
 cases eqI q.1 7 <;> first | exact ⟨hb, hc⟩ | exact ⟨sweep_b now hb, hc⟩
def dealM (b : List AcctT) (q : ReqT) (now : Int) : (List AcctT) × Int × List UInt8 :=
 cond (bookM b) (cond (reqM q) (cond (timeM now)
  (cond (eqI q.1 6)
    (cond (cond (ltI (bookAtM b q.2.1) 0) true (ltI (bookAtM b q.2.2.1) 0)) ([], 3, [])
      (cond (eqI (opM (gt acct0 b (bookAtM b q.2.1)) (gt acct0 b (bookAtM b q.2.2.1)) q now).2.2.1 0)
        (stI (stI b (bookAtM b q.2.2.1) (opM (gt acct0 b (bookAtM b q.2.1)) (gt acct0 b (bookAtM b q.2.2.1)) q now).2.1) (bookAtM b q.2.1) (opM (gt acct0 b (bookAtM b q.2.1)) (gt acct0 b (bookAtM b q.2.2.1)) q now).1, 0, (opM (gt acct0 b (bookAtM b q.2.1)) (gt acct0 b (bookAtM b q.2.2.1)) q now).2.2.2)
        ([], (opM (gt acct0 b (bookAtM b q.2.1)) (gt acct0 b (bookAtM b q.2.2.1)) q now).2.2.1, [])))
    (cond (ltI (bookAtM b q.2.1) 0) ([], 3, [])
      (cond (eqI (opM (gt acct0 b (bookAtM b q.2.1)) (gt acct0 b (bookAtM b q.2.1)) q now).2.2.1 0)
        (stI b (bookAtM b q.2.1) (opM (gt acct0 b (bookAtM b q.2.1)) (gt acct0 b (bookAtM b q.2.1)) q now).1, 0, (opM (gt acct0 b (bookAtM b q.2.1)) (gt acct0 b (bookAtM b q.2.1)) q now).2.2.2)
        ([], (opM (gt acct0 b (bookAtM b q.2.1)) (gt acct0 b (bookAtM b q.2.1)) q now).2.2.1, []))))
  ([], 1, [])) ([], 1, [])) ([], 1, [])
theorem deal_s (b : List AcctT) (q : ReqT) (now : Int) (hb : BookB b) (hq : ReqB q) : g12 (b, ()) q now = some ((), (((dealM b q now).1, ()), ((dealM b q now).2.1, ()), ((dealM b q now).2.2, ()), ())) := by
 have hi := hq.2.2.1
 have a1 := bookAt_s b q.2.1 hb.1
 have a2 := bookAt_s b q.2.2.1 hb.1
 have a3 := bookCp_s b hb
 unfold g12 dealM
 rw [book_s b hb, req_s q hq, time_s, a1, a2]
 dsimp only [Option.bind_some]
 cases bookM b <;> first | rfl | skip
 cases reqM q <;> first | rfl | skip
 cases timeM now <;> first | rfl | skip
 dsimp only [cond_true, cond_false, Bool.not_true]
 cases h6 : eqI q.1 6 with
 | true =>
   dsimp only [cond_true]
   by_cases n1 : bookAtM b q.2.1 < 0
   · rw [ltI_yes n1]; rfl
   by_cases n2 : bookAtM b q.2.2.1 < 0
   · rw [ltI_no n1, ltI_yes n2]; rfl
   obtain ⟨i, y, i1, i2⟩ := bookAt_in n1
   obtain ⟨k, z, j1, j2⟩ := bookAt_in n2
   have hy := hb.2 y (List.mem_of_getElem? i2)
   have hz := hb.2 z (List.mem_of_getElem? j2)
   have e1 : gt d36 b (i : Int) = y := gt_in _ i2
   have e2 : gt d36 b (k : Int) = z := gt_in _ j2
   have e3 : gt acct0 b (i : Int) = y := gt_in _ i2
   have e4 : gt acct0 b (k : Int) = z := gt_in _ j2
   have ho := op_s y z q now hy hz hi
   obtain ⟨ob1, ob2⟩ := op_b (a := y) (b := z) q now hy hz
   rw [ltI_no n1, ltI_no n2, i1, j1, inB_in i2, inB_in j2, e1, e2, e3, e4]
   generalize opM y z q now = r at ho ob1 ob2 ⊢
   dsimp only [cond_true, cond_false]
   rw [ho]
   dsimp only [Option.bind_some]
   cases eqI r.2.2.1 0 with
   | false => rfl
   | true =>
     dsimp only [cond_true, cond_false, Bool.not_true]
     rw [a3, acctCp_s r.1 ob1, acctCp_s r.2.1 ob2]
     dsimp only [Option.bind_some]
     have hlen : (stI b (k : Int) r.2.1).length = b.length := by unfold stI; rw [List.length_set]
     have hin : inB (i : Int) (stI b (k : Int) r.2.1) = true := inB_lt (by rw [hlen]; exact lt_of_get i2)
     by_cases hk : (k : Int) = (i : Int)
     · rw [eqI_iff.2 hk, inB_in i2]
       have : stI (stI b (k : Int) r.2.1) (i : Int) r.1 = stI b (i : Int) r.1 := by rw [hk]; unfold stI; exact List.set_set ..
       rw [this]; rfl
     · rw [eqI_no hk, inB_in j2, hin]; rfl
 | false =>
   dsimp only [cond_false]
   by_cases n1 : bookAtM b q.2.1 < 0
   · rw [ltI_yes n1]; rfl
   obtain ⟨i, y, i1, i2⟩ := bookAt_in n1
   have hy := hb.2 y (List.mem_of_getElem? i2)
   have e1 : gt d36 b (i : Int) = y := gt_in _ i2
   have e3 : gt acct0 b (i : Int) = y := gt_in _ i2
   have ho := op_s y y q now hy hy hi
   obtain ⟨ob1, ob2⟩ := op_b (a := y) (b := y) q now hy hy
   rw [ltI_no n1, i1, inB_in i2, e1, e3]
   generalize opM y y q now = r at ho ob1 ob2 ⊢
   dsimp only [cond_true, cond_false]
   rw [ho]
   dsimp only [Option.bind_some]
   cases eqI r.2.2.1 0 with
   | false => rfl
   | true =>
     dsimp only [cond_true, cond_false, Bool.not_true]
     rw [a3, acctCp_s r.1 ob1, acctCp_s r.2.1 ob2, eqI_refl]
     dsimp only [Option.bind_some, cond_true, cond_false, Bool.not_true]
     rw [inB_in i2]; rfl
theorem selfN_self (n : Nat) (i : Int) : selfN n i i = true := by
 unfold selfN
 induction n with
 | zero => rfl
 | succ n ih => exact (Bool.and_eq_true_iff (x := Nat.beq i.toNat i.toNat)).2 ⟨Nat.beq_refl _, ih⟩
theorem deal_i (b : List AcctT) (q : ReqT) (now : Int) (hb : BookB b) (hq : ReqB q) : g15 (b, ()) q now = some ((), (((dealM b q now).1, ()), ((dealM b q now).2.1, ()), ((dealM b q now).2.2, ()), ())) := by
 have hi := hq.2.2.1
 have a1 := bookAt_i b q.2.1 hb.1
 have a2 := bookAt_i b q.2.2.1 hb.1
 have a3 := bookCp_i b hb
 unfold g15 dealM
 rw [book_i b hb, req_i q hq, time_i, a1, a2]
 dsimp only [Option.bind_some]
 cases bookM b <;> first | rfl | skip
 cases reqM q <;> first | rfl | skip
 cases timeM now <;> first | rfl | skip
 dsimp only [cond_true, cond_false, Bool.not_true]
 obtain ⟨op, acct, other, hold, trace, mti, amt, ttl, _⟩ := q
 dsimp only at hi ⊢
 cases h6 : eqI op 6 with
 | true =>
   obtain rfl := eqI_iff.1 h6
   have t1 : eqI (6 : Int) 1 = false := rfl
   have t2 : eqI (6 : Int) 2 = false := rfl
   have t3 : eqI (6 : Int) 3 = false := rfl
   have t4 : eqI (6 : Int) 4 = false := rfl
   have t5 : eqI (6 : Int) 5 = false := rfl
   have t6 : eqI (6 : Int) 6 = true := rfl
   dsimp only [cond_true]
   by_cases n1 : bookAtM b acct < 0
   · rw [ltI_yes n1]; rfl
   by_cases n2 : bookAtM b other < 0
   · rw [ltI_no n1, ltI_yes n2]; rfl
   obtain ⟨i, y, i1, i2⟩ := bookAt_in n1
   obtain ⟨k, z, j1, j2⟩ := bookAt_in n2
   have hy := hb.2 y (List.mem_of_getElem? i2)
   have hz := hb.2 z (List.mem_of_getElem? j2)
   have e1 : gt d36 b (i : Int) = y := gt_in _ i2
   have e2 : gt d36 b (k : Int) = z := gt_in _ j2
   have e3 : gt acct0 b (i : Int) = y := gt_in _ i2
   have e4 : gt acct0 b (k : Int) = z := gt_in _ j2
   have ho := move_i y z hold now hy hz hi
   have hop : opM y z (6, acct, other, hold, trace, mti, amt, ttl, ()) now = ((moveM y z hold now).1, (moveM y z hold now).2.1, (moveM y z hold now).2.2, []) := rfl
   rw [ltI_no n1, ltI_no n2, i1, j1, t1, t2, t3, t4, t5, a3, e3, e4, hop]
   generalize moveM y z hold now = r at ho ⊢
   dsimp only [Option.bind_some, cond_true, cond_false]
   rw [inB_in i2, inB_in j2, e1, e2, ho]
   dsimp only [Option.bind_some, cond_true, cond_false]
   cases eqI r.2.2 0 with
   | false => rfl
   | true =>
     have hlen : (stI b (k : Int) r.2.1).length = b.length := by unfold stI; rw [List.length_set]
     have hin : inB (i : Int) (stI b (k : Int) r.2.1) = true := inB_lt (by rw [hlen]; exact lt_of_get i2)
     dsimp only [cond_true, cond_false, Bool.not_true]
     rw [hin]; rfl
 | false =>
   dsimp only [cond_false]
   by_cases n1 : bookAtM b acct < 0
   · rw [ltI_yes n1]; rfl
   obtain ⟨i, y, i1, i2⟩ := bookAt_in n1
   have hy := hb.2 y (List.mem_of_getElem? i2)
   have e1 : gt d36 b (i : Int) = y := gt_in _ i2
   have e3 : gt acct0 b (i : Int) = y := gt_in _ i2
   rw [ltI_no n1, i1, a3, e3]
   dsimp only [Option.bind_some, cond_true, cond_false]
   rw [inB_in i2, e1, auth_i y _ _ _ now hy hi, more_i y _ _ now hy hi, cap_i y _ _ _ now hy hi, free_i y _ now hy hi, ask_i y now hy, sweep_i y now hy, selfN_self]
   unfold opM
   dsimp only [Option.bind_some, cond_true, cond_false]
   rw [h6]
   cases eqI op 1 with
   | true => dsimp only [cond_true]; cases eqI (authM y hold amt ttl now).2 0 <;> rfl
   | false =>
   cases eqI op 2 with
   | true => dsimp only [cond_true, cond_false]; cases eqI (moreM y hold amt now).2 0 <;> rfl
   | false =>
   cases eqI op 3 with
   | true => dsimp only [cond_true, cond_false]; cases eqI (capM y hold amt (eqI op 4) now).2 0 <;> rfl
   | false =>
   cases h4 : eqI op 4 with
   | true => dsimp only [cond_true, cond_false]; cases eqI (capM y hold amt true now).2 0 <;> rfl
   | false =>
   cases eqI op 5 with
   | true => dsimp only [cond_true, cond_false]; cases eqI (freeM y hold now).2 0 <;> rfl
   | false =>
   cases eqI op 7 with
   | true => dsimp only [cond_true, cond_false]; cases eqI (askM y now).2 0 <;> rfl
   | false => dsimp only [cond_true, cond_false]; cases eqI (sweepM y now).2 0 <;> rfl
end Go.Av
