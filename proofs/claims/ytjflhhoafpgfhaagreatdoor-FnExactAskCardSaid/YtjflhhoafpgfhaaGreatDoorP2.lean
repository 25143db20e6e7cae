/- Part of a proof that the law FnExactAsk answers true for every input: the printed functions of this program and their plain laws. No conditions beyond the statement. -/
import Derived.Test.YtjflhhoafpgfhaaGreatDoorP1
import Derived.Test.YtjflhhoafpgfhaaGreatDoorFw3
set_option maxRecDepth 100000
set_option maxHeartbeats 4000000
namespace Go.Av
def wHold (x : ((List UInt8) × Int × Int × Unit)) : Nat := x.1.length
def bgHold (x : ((List UInt8) × Int × Int × Unit)) : Prop := x.1.length ≤ big
theorem szHold (x : ((List UInt8) × Int × Int × Unit)) (left : Int) (h0 : 0 ≤ left) (h1 : left ≤ 1048576) (hb : bgHold x) : g57 x left = some ((), ((szR left (wHold x), ()), ())) := by
  have hw : wHold x = x.1.length := rfl
  unfold g57
  try dsimp only
  by_cases q0 : ((x.1.length : Nat) : Int) ≤ left
  rotate_left
  · rw [szR_len (s := x.1) (left := left) (by omega) (by omega) hb]; rw [ltI_yes (by omega), szR_neg (by omega)]; rfl
  rw [szR_len (s := x.1) (left := left) (by omega) (by omega) hb]; rw [ltI_no (by omega)]; dsimp only [cond_false]
  rw [szR_pos (by omega)]
  have e : (left - ((x.1.length : Nat) : Int)) = left - ((wHold x : Nat) : Int) := by omega
  rw [e]
theorem toHold (x : ((List UInt8) × Int × Int × Unit)) (h : wHold x ≤ 1048576) : g70 x = some ((), (x, ())) := by
  have hw : wHold x = x.1.length := rfl
  unfold g70
  rfl
theorem eqHold (x : ((List UInt8) × Int × Int × Unit)) (h : wHold x ≤ 1099511627776) : g79 x x = some ((), ((true, ()), ())) := by
  have hw : wHold x = x.1.length := rfl
  unfold g79
  simp only [eqI_refl, eqS_refl, Bool.not_true, cond_false, Option.bind_some, beq_self_eq_true]
theorem szIntS (x : (List R3)) (left : Int) (h0 : 0 ≤ left) (h1 : left ≤ 1048576) (hb : x.length ≤ big) : g58 x left = some ((), ((szR left x.length, ()), ())) := by
  unfold g58
  dsimp only
  by_cases q : ((x.length : Nat) : Int) ≤ left
  · rw [szR_len (s := x) (left := left) (by omega) (by omega) hb, ltI_no (by omega), szR_pos q]; rfl
  · rw [szR_len (s := x) (left := left) (by omega) (by omega) hb, ltI_yes (by omega), szR_neg q]; rfl
theorem toIntS (xs : List R3) (h : xs.length ≤ 1048576) : g71 xs = some ((), ((xs, ()), ())) := by
  have hb : big = 140737488355328 := rfl
  unfold g71
  dsimp only
  rw [mkB_in (by decide) (by omega), repI_len]
  have h := loop_inv (step := fun (x : (List R3) × (List R3) × Int × Unit) => r71_0 x.1 x.2.1 x.2.2.1) xs (fun i (a : List R3) => (xs, a ++ List.replicate (xs.length - i) d3, ((i : Nat) : Int), ())) (fun _ x (a : List R3) => Sum.inl (a ++ [x]))
    (fun a => .inl (xs, a, (xs.length : Int), ())) (fun i a => a.length = i) (a0 := []) rfl (fun i x a hx ha => by
      have hlt := lt_of_get hx
      show r71_0 xs (a ++ List.replicate (xs.length - i) d3) (i : Int) = _
      unfold r71_0
      obtain ⟨q, hq⟩ : ∃ q, xs.length - i = q + 1 := ⟨xs.length - i - 1, by omega⟩
      have hq' : xs.length - (i + 1) = q := by omega
      rw [hq, List.replicate_succ, ltI_in hx, inB_in hx, inB_mid ha, gt_in _ hx, stI_mid ha, addW1 (by omega), hq']
      dsimp only [cond_true]
      rw [List.append_assoc]; rfl) (fun i x a a' hx ha hf => by
      simp only [Sum.inl.injEq] at hf
      rw [← hf, List.length_append, ha]; rfl) (fun a ha => by
      show r71_0 xs (a ++ List.replicate (xs.length - xs.length) d3) (xs.length : Int) = _
      unfold r71_0
      rw [ltI_out rfl, Nat.sub_self, List.replicate_zero, List.append_nil]; rfl)
  rw [goL_cp] at h
  have h' : l71_0 xs (List.replicate xs.length d3) 0 = _ := h
  rw [h']; rfl
theorem eqIntS (xs : List R3) (h : xs.length ≤ 1099511627776) : g80 xs xs = some ((), ((true, ()), ())) := by
  have hb : big = 140737488355328 := rfl
  unfold g80
  rw [eqI_refl]
  have h := loop_list (step := fun (x : (List R3) × (List R3) × Int × Unit) => r80_0 x.1 x.2.1 x.2.2.1) xs (fun i (_ : Unit) => (xs, xs, ((i : Nat) : Int), ())) (fun _ x _ => Sum.inl ()) (fun _ => .inl (xs, xs, (xs.length : Int), ())) (a0 := ()) (fun i x a hx => by
      have hlt := lt_of_get hx
      show r80_0 xs xs (i : Int) = _
      unfold r80_0
      rw [ltI_in hx, inB_in hx, gt_in _ hx, eqI_refl, addW1 (by omega)]; rfl) (fun a => by
      show r80_0 xs xs (xs.length : Int) = _
      unfold r80_0
      rw [ltI_out rfl]; rfl)
  rw [goL_fold (fun _ a => a)] at h
  have h' : l80_0 xs xs 0 = _ := h
  rw [h']; rfl
def wRing (x : (Int × Int × (List R3) × (List R3) × Unit)) : Nat := x.2.2.1.length + x.2.2.2.1.length
def bgRing (x : (Int × Int × (List R3) × (List R3) × Unit)) : Prop := x.2.2.1.length ≤ big ∧ x.2.2.2.1.length ≤ big
theorem szRing (x : (Int × Int × (List R3) × (List R3) × Unit)) (left : Int) (h0 : 0 ≤ left) (h1 : left ≤ 1048576) (hb : bgRing x) : g20 x left = some ((), ((szR left (wRing x), ()), ())) := by
  have hw : wRing x = x.2.2.1.length + x.2.2.2.1.length := rfl
  unfold g20
  try dsimp only
  by_cases q0 : ((x.2.2.1.length : Nat) : Int) ≤ left
  rotate_left
  · rw [szIntS x.2.2.1 left (by omega) (by omega) (hb.1), szR_neg q0, szR_neg (by omega)]; rfl
  rw [szIntS x.2.2.1 left (by omega) (by omega) (hb.1), szR_pos q0]; dsimp only [Option.bind_some]; rw [ltI_no (by omega)]; dsimp only [cond_false]
  by_cases q1 : ((x.2.2.2.1.length : Nat) : Int) ≤ (left - ((x.2.2.1.length : Nat) : Int))
  rotate_left
  · rw [szIntS x.2.2.2.1 (left - ((x.2.2.1.length : Nat) : Int)) (by omega) (by omega) (hb.2), szR_neg q1, szR_neg (by omega)]; rfl
  rw [szIntS x.2.2.2.1 (left - ((x.2.2.1.length : Nat) : Int)) (by omega) (by omega) (hb.2), szR_pos q1]; dsimp only [Option.bind_some]; rw [ltI_no (by omega)]; dsimp only [cond_false]
  rw [szR_pos (by omega)]
  have e : ((left - ((x.2.2.1.length : Nat) : Int)) - ((x.2.2.2.1.length : Nat) : Int)) = left - ((wRing x : Nat) : Int) := by omega
  rw [e]
theorem toRing (x : (Int × Int × (List R3) × (List R3) × Unit)) (h : wRing x ≤ 1048576) : g27 x = some ((), (x, ())) := by
  have hw : wRing x = x.2.2.1.length + x.2.2.2.1.length := rfl
  unfold g27
  rw [toIntS x.2.2.1 (by omega)]
  rw [toIntS x.2.2.2.1 (by omega)]
  rfl
theorem eqRing (x : (Int × Int × (List R3) × (List R3) × Unit)) (h : wRing x ≤ 1099511627776) : g33 x x = some ((), ((true, ()), ())) := by
  have hw : wRing x = x.2.2.1.length + x.2.2.2.1.length := rfl
  unfold g33
  simp only [eqI_refl, eqS_refl, Bool.not_true, cond_false, Option.bind_some, beq_self_eq_true, eqIntS x.2.2.1 (by omega), eqIntS x.2.2.2.1 (by omega)]
theorem szByteS (x : (List R5)) (left : Int) (h0 : 0 ≤ left) (h1 : left ≤ 1048576) (hb : x.length ≤ big) : g118 x left = some ((), ((szR left x.length, ()), ())) := by
  unfold g118
  dsimp only
  by_cases q : ((x.length : Nat) : Int) ≤ left
  · rw [szR_len (s := x) (left := left) (by omega) (by omega) hb, ltI_no (by omega), szR_pos q]; rfl
  · rw [szR_len (s := x) (left := left) (by omega) (by omega) hb, ltI_yes (by omega), szR_neg q]; rfl
theorem toByteS (xs : List R5) (h : xs.length ≤ 1048576) : g125 xs = some ((), ((xs, ()), ())) := by
  have hb : big = 140737488355328 := rfl
  unfold g125
  dsimp only
  rw [mkB_in (by decide) (by omega), repI_len]
  have h := loop_inv (step := fun (x : (List R5) × (List R5) × Int × Unit) => r125_0 x.1 x.2.1 x.2.2.1) xs (fun i (a : List R5) => (xs, a ++ List.replicate (xs.length - i) d5, ((i : Nat) : Int), ())) (fun _ x (a : List R5) => Sum.inl (a ++ [x]))
    (fun a => .inl (xs, a, (xs.length : Int), ())) (fun i a => a.length = i) (a0 := []) rfl (fun i x a hx ha => by
      have hlt := lt_of_get hx
      show r125_0 xs (a ++ List.replicate (xs.length - i) d5) (i : Int) = _
      unfold r125_0
      obtain ⟨q, hq⟩ : ∃ q, xs.length - i = q + 1 := ⟨xs.length - i - 1, by omega⟩
      have hq' : xs.length - (i + 1) = q := by omega
      rw [hq, List.replicate_succ, ltI_in hx, inB_in hx, inB_mid ha, gt_in _ hx, stI_mid ha, addW1 (by omega), hq']
      dsimp only [cond_true]
      rw [List.append_assoc]; rfl) (fun i x a a' hx ha hf => by
      simp only [Sum.inl.injEq] at hf
      rw [← hf, List.length_append, ha]; rfl) (fun a ha => by
      show r125_0 xs (a ++ List.replicate (xs.length - xs.length) d5) (xs.length : Int) = _
      unfold r125_0
      rw [ltI_out rfl, Nat.sub_self, List.replicate_zero, List.append_nil]; rfl)
  rw [goL_cp] at h
  have h' : l125_0 xs (List.replicate xs.length d5) 0 = _ := h
  rw [h']; rfl
theorem eqByteS (xs : List R5) (h : xs.length ≤ 1099511627776) : g140 xs xs = some ((), ((true, ()), ())) := by
  have hb : big = 140737488355328 := rfl
  unfold g140
  rw [eqI_refl]
  have h := loop_list (step := fun (x : (List R5) × (List R5) × Int × Unit) => r140_0 x.1 x.2.1 x.2.2.1) xs (fun i (_ : Unit) => (xs, xs, ((i : Nat) : Int), ())) (fun _ x _ => Sum.inl ()) (fun _ => .inl (xs, xs, (xs.length : Int), ())) (a0 := ()) (fun i x a hx => by
      have hlt := lt_of_get hx
      show r140_0 xs xs (i : Int) = _
      unfold r140_0
      rw [ltI_in hx, inB_in hx, gt_in _ hx, eqI_refl, addW1 (by omega)]; rfl) (fun a => by
      show r140_0 xs xs (xs.length : Int) = _
      unfold r140_0
      rw [ltI_out rfl]; rfl)
  rw [goL_fold (fun _ a => a)] at h
  have h' : l140_0 xs xs 0 = _ := h
  rw [h']; rfl
def wSlot (x : ((List UInt8) × (List UInt8) × (List R5) × Unit)) : Nat := x.1.length + x.2.1.length + x.2.2.1.length
def bgSlot (x : ((List UInt8) × (List UInt8) × (List R5) × Unit)) : Prop := x.1.length ≤ big ∧ x.2.1.length ≤ big ∧ x.2.2.1.length ≤ big
theorem szSlot (x : ((List UInt8) × (List UInt8) × (List R5) × Unit)) (left : Int) (h0 : 0 ≤ left) (h1 : left ≤ 1048576) (hb : bgSlot x) : g59 x left = some ((), ((szR left (wSlot x), ()), ())) := by
  have hw : wSlot x = x.1.length + x.2.1.length + x.2.2.1.length := rfl
  unfold g59
  try dsimp only
  by_cases q0 : ((x.1.length : Nat) : Int) ≤ left
  rotate_left
  · rw [szR_len (s := x.1) (left := left) (by omega) (by omega) hb.1]; rw [ltI_yes (by omega), szR_neg (by omega)]; rfl
  rw [szR_len (s := x.1) (left := left) (by omega) (by omega) hb.1]; rw [ltI_no (by omega)]; dsimp only [cond_false]
  by_cases q1 : ((x.2.1.length : Nat) : Int) ≤ (left - ((x.1.length : Nat) : Int))
  rotate_left
  · rw [szR_len (s := x.2.1) (left := (left - ((x.1.length : Nat) : Int))) (by omega) (by omega) hb.2.1]; rw [ltI_yes (by omega), szR_neg (by omega)]; rfl
  rw [szR_len (s := x.2.1) (left := (left - ((x.1.length : Nat) : Int))) (by omega) (by omega) hb.2.1]; rw [ltI_no (by omega)]; dsimp only [cond_false]
  by_cases q2 : ((x.2.2.1.length : Nat) : Int) ≤ ((left - ((x.1.length : Nat) : Int)) - ((x.2.1.length : Nat) : Int))
  rotate_left
  · rw [szByteS x.2.2.1 ((left - ((x.1.length : Nat) : Int)) - ((x.2.1.length : Nat) : Int)) (by omega) (by omega) (hb.2.2), szR_neg q2, szR_neg (by omega)]; rfl
  rw [szByteS x.2.2.1 ((left - ((x.1.length : Nat) : Int)) - ((x.2.1.length : Nat) : Int)) (by omega) (by omega) (hb.2.2), szR_pos q2]; dsimp only [Option.bind_some]; rw [ltI_no (by omega)]; dsimp only [cond_false]
  rw [szR_pos (by omega)]
  have e : (((left - ((x.1.length : Nat) : Int)) - ((x.2.1.length : Nat) : Int)) - ((x.2.2.1.length : Nat) : Int)) = left - ((wSlot x : Nat) : Int) := by omega
  rw [e]
theorem toSlot (x : ((List UInt8) × (List UInt8) × (List R5) × Unit)) (h : wSlot x ≤ 1048576) : g72 x = some ((), (x, ())) := by
  have hw : wSlot x = x.1.length + x.2.1.length + x.2.2.1.length := rfl
  unfold g72
  rw [toByteS x.2.2.1 (by omega)]
  rfl
theorem eqSlot (x : ((List UInt8) × (List UInt8) × (List R5) × Unit)) (h : wSlot x ≤ 1099511627776) : g81 x x = some ((), ((true, ()), ())) := by
  have hw : wSlot x = x.1.length + x.2.1.length + x.2.2.1.length := rfl
  unfold g81
  simp only [eqI_refl, eqS_refl, Bool.not_true, cond_false, Option.bind_some, beq_self_eq_true, eqByteS x.2.2.1 (by omega)]
theorem szHoldS_loop (xs : List R93) (hb : xs.length ≤ big ∧ ∀ y ∈ xs, bgHold y) (a : Int) (h0 : 0 ≤ a) (h1 : a ≤ 1048576) : l19_0 xs a 0 = some (if ((cL wHold xs : Nat) : Int) ≤ a then .inl (xs, a - (cL wHold xs : Nat), (xs.length : Int), ()) else .inr (-1, ())) := by
  have h := loop_inv (step := fun (x : (List R93) × Int × Int × Unit) => r19_0 x.1 x.2.1 x.2.2.1) xs (fun i (a : Int) => (xs, a, ((i : Nat) : Int), ())) (fun _ x (a : Int) => bif decide ((wHold x : Int) ≤ a) then Sum.inl (a - wHold x) else .inr (.inr (-1, ())))
    (fun a => .inl (xs, a, (xs.length : Int), ())) (fun _ a => 0 ≤ a ∧ a ≤ 1048576) (a0 := a) ⟨h0, h1⟩ (fun i x a hx ha => by
      have hmem := List.mem_of_getElem? hx
      have hlt := lt_of_get hx
      show r19_0 xs a (i : Int) = _
      unfold r19_0
      rw [ltI_in hx, inB_in hx, gt_in _ hx, szHold x a ha.1 ha.2 (hb.2 x hmem), addW1 (by omega)]
      dsimp only [cond_true, Option.bind_some]
      by_cases q : ((wHold x : Nat) : Int) ≤ a
      · rw [szR_pos q, ltI_no (by omega), decide_eq_true q]; rfl
      · rw [szR_neg q, decide_eq_false q]; rfl) (fun i x a a' hx ha hf => by
      by_cases q : ((wHold x : Nat) : Int) ≤ a
      · rw [decide_eq_true q] at hf
        simp only [cond_true, Sum.inl.injEq] at hf
        omega
      · rw [decide_eq_false q] at hf
        simp at hf) (fun a ha => by
      show r19_0 xs a (xs.length : Int) = _
      unfold r19_0
      rw [ltI_out rfl]; rfl)
  rw [goL_sz _ _ _ _ _ _ h0] at h
  refine Eq.trans h ?_
  split <;> rfl
theorem szHoldS (xs : List R93) (left : Int) (h0 : 0 ≤ left) (h1 : left ≤ 1048576) (hb : xs.length ≤ big ∧ ∀ y ∈ xs, bgHold y) : g19 xs left = some ((), ((szR left (wL wHold xs), ()), ())) := by
  have hw : wL wHold xs = xs.length + cL wHold xs := rfl
  unfold g19
  dsimp only
  rw [szR_len (s := xs) (left := left) (by omega) (by omega) hb.1]
  by_cases q : ((xs.length : Nat) : Int) ≤ left
  · rw [ltI_no (by omega)]
    dsimp only [cond_false]
    rw [szHoldS_loop xs hb _ (by omega) (by omega)]
    by_cases q2 : ((cL wHold xs : Nat) : Int) ≤ left - (xs.length : Int)
    · rw [if_pos q2, szR_pos (by omega)]
      dsimp only [Option.bind_some, Sum.elim_inl]
      have e : left - (xs.length : Int) - (cL wHold xs : Nat) = left - ((wL wHold xs : Nat) : Int) := by omega
      rw [e]
    · rw [if_neg q2, szR_neg (by omega)]; rfl
  · rw [ltI_yes (by omega), szR_neg (by omega)]; rfl
theorem toHoldS (xs : List R93) (h : wL wHold xs ≤ 1048576) : g26 xs = some ((), ((xs, ()), ())) := by
  have hb : big = 140737488355328 := rfl
  have hw : wL wHold xs = xs.length + cL wHold xs := rfl
  unfold g26
  dsimp only
  rw [mkB_in (by decide) (by omega), repI_len]
  have h := loop_inv (step := fun (x : (List R93) × (List R108) × Int × Unit) => r26_0 x.1 x.2.1 x.2.2.1) xs (fun i (a : List R93) => (xs, a ++ List.replicate (xs.length - i) d108, ((i : Nat) : Int), ())) (fun _ x (a : List R93) => Sum.inl (a ++ [x]))
    (fun a => .inl (xs, a, (xs.length : Int), ())) (fun i a => a.length = i) (a0 := []) rfl (fun i x a hx ha => by
      have hlt := lt_of_get hx
      have hcm := cL_mem wHold hx
      show r26_0 xs (a ++ List.replicate (xs.length - i) d108) (i : Int) = _
      unfold r26_0
      obtain ⟨q, hq⟩ : ∃ q, xs.length - i = q + 1 := ⟨xs.length - i - 1, by omega⟩
      have hq' : xs.length - (i + 1) = q := by omega
      rw [hq, List.replicate_succ, ltI_in hx, inB_in hx, gt_in _ hx, toHold x (by omega)]
      dsimp only [cond_true, Option.bind_some]
      simp only [inB_mid ha, gt_mid _ ha, stI_mid ha, addW1 (show i ≤ big by omega), hq', cond_true, List.append_assoc, List.singleton_append]) (fun i x a a' hx ha hf => by
      simp only [Sum.inl.injEq] at hf
      rw [← hf, List.length_append, ha]; rfl) (fun a ha => by
      show r26_0 xs (a ++ List.replicate (xs.length - xs.length) d108) (xs.length : Int) = _
      unfold r26_0
      rw [ltI_out rfl, Nat.sub_self, List.replicate_zero, List.append_nil]; rfl)
  rw [goL_cp] at h
  have h' : l26_0 xs (List.replicate xs.length d108) 0 = _ := h
  rw [h']; rfl
theorem eqHoldS (xs : List R108) (h : wL wHold xs ≤ 1099511627776) : g32 xs xs = some ((), ((true, ()), ())) := by
  have hb : big = 140737488355328 := rfl
  have hw : wL wHold xs = xs.length + cL wHold xs := rfl
  unfold g32
  rw [eqI_refl]
  have h := loop_list (step := fun (x : (List R108) × (List R108) × Int × Unit) => r32_0 x.1 x.2.1 x.2.2.1) xs (fun i (_ : Unit) => (xs, xs, ((i : Nat) : Int), ())) (fun _ x _ => Sum.inl ()) (fun _ => .inl (xs, xs, (xs.length : Int), ())) (a0 := ()) (fun i x a hx => by
      have hlt := lt_of_get hx
      have hcm := cL_mem wHold hx
      show r32_0 xs xs (i : Int) = _
      unfold r32_0
      rw [ltI_in hx, inB_in hx, gt_in _ hx, eqHold x (by omega), addW1 (by omega)]; rfl) (fun a => by
      show r32_0 xs xs (xs.length : Int) = _
      unfold r32_0
      rw [ltI_out rfl]; rfl)
  rw [goL_fold (fun _ a => a)] at h
  have h' : l32_0 xs xs 0 = _ := h
  rw [h']; rfl
theorem szSlotS_loop (xs : List R98) (hb : xs.length ≤ big ∧ ∀ y ∈ xs, bgSlot y) (a : Int) (h0 : 0 ≤ a) (h1 : a ≤ 1048576) : l21_0 xs a 0 = some (if ((cL wSlot xs : Nat) : Int) ≤ a then .inl (xs, a - (cL wSlot xs : Nat), (xs.length : Int), ()) else .inr (-1, ())) := by
  have h := loop_inv (step := fun (x : (List R98) × Int × Int × Unit) => r21_0 x.1 x.2.1 x.2.2.1) xs (fun i (a : Int) => (xs, a, ((i : Nat) : Int), ())) (fun _ x (a : Int) => bif decide ((wSlot x : Int) ≤ a) then Sum.inl (a - wSlot x) else .inr (.inr (-1, ())))
    (fun a => .inl (xs, a, (xs.length : Int), ())) (fun _ a => 0 ≤ a ∧ a ≤ 1048576) (a0 := a) ⟨h0, h1⟩ (fun i x a hx ha => by
      have hmem := List.mem_of_getElem? hx
      have hlt := lt_of_get hx
      show r21_0 xs a (i : Int) = _
      unfold r21_0
      rw [ltI_in hx, inB_in hx, gt_in _ hx, szSlot x a ha.1 ha.2 (hb.2 x hmem), addW1 (by omega)]
      dsimp only [cond_true, Option.bind_some]
      by_cases q : ((wSlot x : Nat) : Int) ≤ a
      · rw [szR_pos q, ltI_no (by omega), decide_eq_true q]; rfl
      · rw [szR_neg q, decide_eq_false q]; rfl) (fun i x a a' hx ha hf => by
      by_cases q : ((wSlot x : Nat) : Int) ≤ a
      · rw [decide_eq_true q] at hf
        simp only [cond_true, Sum.inl.injEq] at hf
        omega
      · rw [decide_eq_false q] at hf
        simp at hf) (fun a ha => by
      show r21_0 xs a (xs.length : Int) = _
      unfold r21_0
      rw [ltI_out rfl]; rfl)
  rw [goL_sz _ _ _ _ _ _ h0] at h
  refine Eq.trans h ?_
  split <;> rfl
theorem szSlotS (xs : List R98) (left : Int) (h0 : 0 ≤ left) (h1 : left ≤ 1048576) (hb : xs.length ≤ big ∧ ∀ y ∈ xs, bgSlot y) : g21 xs left = some ((), ((szR left (wL wSlot xs), ()), ())) := by
  have hw : wL wSlot xs = xs.length + cL wSlot xs := rfl
  unfold g21
  dsimp only
  rw [szR_len (s := xs) (left := left) (by omega) (by omega) hb.1]
  by_cases q : ((xs.length : Nat) : Int) ≤ left
  · rw [ltI_no (by omega)]
    dsimp only [cond_false]
    rw [szSlotS_loop xs hb _ (by omega) (by omega)]
    by_cases q2 : ((cL wSlot xs : Nat) : Int) ≤ left - (xs.length : Int)
    · rw [if_pos q2, szR_pos (by omega)]
      dsimp only [Option.bind_some, Sum.elim_inl]
      have e : left - (xs.length : Int) - (cL wSlot xs : Nat) = left - ((wL wSlot xs : Nat) : Int) := by omega
      rw [e]
    · rw [if_neg q2, szR_neg (by omega)]; rfl
  · rw [ltI_yes (by omega), szR_neg (by omega)]; rfl
theorem toSlotS (xs : List R98) (h : wL wSlot xs ≤ 1048576) : g28 xs = some ((), ((xs, ()), ())) := by
  have hb : big = 140737488355328 := rfl
  have hw : wL wSlot xs = xs.length + cL wSlot xs := rfl
  unfold g28
  dsimp only
  rw [mkB_in (by decide) (by omega), repI_len]
  have h := loop_inv (step := fun (x : (List R98) × (List R111) × Int × Unit) => r28_0 x.1 x.2.1 x.2.2.1) xs (fun i (a : List R98) => (xs, a ++ List.replicate (xs.length - i) d111, ((i : Nat) : Int), ())) (fun _ x (a : List R98) => Sum.inl (a ++ [x]))
    (fun a => .inl (xs, a, (xs.length : Int), ())) (fun i a => a.length = i) (a0 := []) rfl (fun i x a hx ha => by
      have hlt := lt_of_get hx
      have hcm := cL_mem wSlot hx
      show r28_0 xs (a ++ List.replicate (xs.length - i) d111) (i : Int) = _
      unfold r28_0
      obtain ⟨q, hq⟩ : ∃ q, xs.length - i = q + 1 := ⟨xs.length - i - 1, by omega⟩
      have hq' : xs.length - (i + 1) = q := by omega
      rw [hq, List.replicate_succ, ltI_in hx, inB_in hx, gt_in _ hx, toSlot x (by omega)]
      dsimp only [cond_true, Option.bind_some]
      simp only [inB_mid ha, gt_mid _ ha, stI_mid ha, addW1 (show i ≤ big by omega), hq', cond_true, List.append_assoc, List.singleton_append]) (fun i x a a' hx ha hf => by
      simp only [Sum.inl.injEq] at hf
      rw [← hf, List.length_append, ha]; rfl) (fun a ha => by
      show r28_0 xs (a ++ List.replicate (xs.length - xs.length) d111) (xs.length : Int) = _
      unfold r28_0
      rw [ltI_out rfl, Nat.sub_self, List.replicate_zero, List.append_nil]; rfl)
  rw [goL_cp] at h
  have h' : l28_0 xs (List.replicate xs.length d111) 0 = _ := h
  rw [h']; rfl
theorem eqSlotS (xs : List R111) (h : wL wSlot xs ≤ 1099511627776) : g34 xs xs = some ((), ((true, ()), ())) := by
  have hb : big = 140737488355328 := rfl
  have hw : wL wSlot xs = xs.length + cL wSlot xs := rfl
  unfold g34
  rw [eqI_refl]
  have h := loop_list (step := fun (x : (List R111) × (List R111) × Int × Unit) => r34_0 x.1 x.2.1 x.2.2.1) xs (fun i (_ : Unit) => (xs, xs, ((i : Nat) : Int), ())) (fun _ x _ => Sum.inl ()) (fun _ => .inl (xs, xs, (xs.length : Int), ())) (a0 := ()) (fun i x a hx => by
      have hlt := lt_of_get hx
      have hcm := cL_mem wSlot hx
      show r34_0 xs xs (i : Int) = _
      unfold r34_0
      rw [ltI_in hx, inB_in hx, gt_in _ hx, eqSlot x (by omega), addW1 (by omega)]; rfl) (fun a => by
      show r34_0 xs xs (xs.length : Int) = _
      unfold r34_0
      rw [ltI_out rfl]; rfl)
  rw [goL_fold (fun _ a => a)] at h
  have h' : l34_0 xs xs 0 = _ := h
  rw [h']; rfl
def wAcct (x : ((List UInt8) × Int × Int × Int × Int × (List R93) × Int × Int × (List R3) × (List R3) × (List R98) × Unit)) : Nat := x.1.length + wL wHold x.2.2.2.2.2.1 + wRing (x.2.2.2.2.2.2.1, x.2.2.2.2.2.2.2.1, x.2.2.2.2.2.2.2.2.1, x.2.2.2.2.2.2.2.2.2.1, ()) + wL wSlot x.2.2.2.2.2.2.2.2.2.2.1
def bgAcct (x : ((List UInt8) × Int × Int × Int × Int × (List R93) × Int × Int × (List R3) × (List R3) × (List R98) × Unit)) : Prop := x.1.length ≤ big ∧ (x.2.2.2.2.2.1.length ≤ big ∧ ∀ y ∈ x.2.2.2.2.2.1, bgHold y) ∧ bgRing (x.2.2.2.2.2.2.1, x.2.2.2.2.2.2.2.1, x.2.2.2.2.2.2.2.2.1, x.2.2.2.2.2.2.2.2.2.1, ()) ∧ (x.2.2.2.2.2.2.2.2.2.2.1.length ≤ big ∧ ∀ y ∈ x.2.2.2.2.2.2.2.2.2.2.1, bgSlot y)
theorem szAcct (x : ((List UInt8) × Int × Int × Int × Int × (List R93) × Int × Int × (List R3) × (List R3) × (List R98) × Unit)) (left : Int) (h0 : 0 ≤ left) (h1 : left ≤ 1048576) (hb : bgAcct x) : g5 x left = some ((), ((szR left (wAcct x), ()), ())) := by
  have hw : wAcct x = x.1.length + wL wHold x.2.2.2.2.2.1 + wRing (x.2.2.2.2.2.2.1, x.2.2.2.2.2.2.2.1, x.2.2.2.2.2.2.2.2.1, x.2.2.2.2.2.2.2.2.2.1, ()) + wL wSlot x.2.2.2.2.2.2.2.2.2.2.1 := rfl
  unfold g5
  try dsimp only
  by_cases q0 : ((x.1.length : Nat) : Int) ≤ left
  rotate_left
  · rw [szR_len (s := x.1) (left := left) (by omega) (by omega) hb.1]; rw [ltI_yes (by omega), szR_neg (by omega)]; rfl
  rw [szR_len (s := x.1) (left := left) (by omega) (by omega) hb.1]; rw [ltI_no (by omega)]; dsimp only [cond_false]
  by_cases q1 : ((wL wHold x.2.2.2.2.2.1 : Nat) : Int) ≤ (left - ((x.1.length : Nat) : Int))
  rotate_left
  · rw [szHoldS x.2.2.2.2.2.1 (left - ((x.1.length : Nat) : Int)) (by omega) (by omega) (hb.2.1), szR_neg q1, szR_neg (by omega)]; rfl
  rw [szHoldS x.2.2.2.2.2.1 (left - ((x.1.length : Nat) : Int)) (by omega) (by omega) (hb.2.1), szR_pos q1]; dsimp only [Option.bind_some]; rw [ltI_no (by omega)]; dsimp only [cond_false]
  by_cases q2 : ((wRing (x.2.2.2.2.2.2.1, x.2.2.2.2.2.2.2.1, x.2.2.2.2.2.2.2.2.1, x.2.2.2.2.2.2.2.2.2.1, ()) : Nat) : Int) ≤ ((left - ((x.1.length : Nat) : Int)) - ((wL wHold x.2.2.2.2.2.1 : Nat) : Int))
  rotate_left
  · rw [szRing (x.2.2.2.2.2.2.1, x.2.2.2.2.2.2.2.1, x.2.2.2.2.2.2.2.2.1, x.2.2.2.2.2.2.2.2.2.1, ()) ((left - ((x.1.length : Nat) : Int)) - ((wL wHold x.2.2.2.2.2.1 : Nat) : Int)) (by omega) (by omega) (hb.2.2.1), szR_neg q2, szR_neg (by omega)]; rfl
  rw [szRing (x.2.2.2.2.2.2.1, x.2.2.2.2.2.2.2.1, x.2.2.2.2.2.2.2.2.1, x.2.2.2.2.2.2.2.2.2.1, ()) ((left - ((x.1.length : Nat) : Int)) - ((wL wHold x.2.2.2.2.2.1 : Nat) : Int)) (by omega) (by omega) (hb.2.2.1), szR_pos q2]; dsimp only [Option.bind_some]; rw [ltI_no (by omega)]; dsimp only [cond_false]
  by_cases q3 : ((wL wSlot x.2.2.2.2.2.2.2.2.2.2.1 : Nat) : Int) ≤ (((left - ((x.1.length : Nat) : Int)) - ((wL wHold x.2.2.2.2.2.1 : Nat) : Int)) - ((wRing (x.2.2.2.2.2.2.1, x.2.2.2.2.2.2.2.1, x.2.2.2.2.2.2.2.2.1, x.2.2.2.2.2.2.2.2.2.1, ()) : Nat) : Int))
  rotate_left
  · rw [szSlotS x.2.2.2.2.2.2.2.2.2.2.1 (((left - ((x.1.length : Nat) : Int)) - ((wL wHold x.2.2.2.2.2.1 : Nat) : Int)) - ((wRing (x.2.2.2.2.2.2.1, x.2.2.2.2.2.2.2.1, x.2.2.2.2.2.2.2.2.1, x.2.2.2.2.2.2.2.2.2.1, ()) : Nat) : Int)) (by omega) (by omega) (hb.2.2.2), szR_neg q3, szR_neg (by omega)]; rfl
  rw [szSlotS x.2.2.2.2.2.2.2.2.2.2.1 (((left - ((x.1.length : Nat) : Int)) - ((wL wHold x.2.2.2.2.2.1 : Nat) : Int)) - ((wRing (x.2.2.2.2.2.2.1, x.2.2.2.2.2.2.2.1, x.2.2.2.2.2.2.2.2.1, x.2.2.2.2.2.2.2.2.2.1, ()) : Nat) : Int)) (by omega) (by omega) (hb.2.2.2), szR_pos q3]; dsimp only [Option.bind_some]; rw [ltI_no (by omega)]; dsimp only [cond_false]
  rw [szR_pos (by omega)]
  have e : ((((left - ((x.1.length : Nat) : Int)) - ((wL wHold x.2.2.2.2.2.1 : Nat) : Int)) - ((wRing (x.2.2.2.2.2.2.1, x.2.2.2.2.2.2.2.1, x.2.2.2.2.2.2.2.2.1, x.2.2.2.2.2.2.2.2.2.1, ()) : Nat) : Int)) - ((wL wSlot x.2.2.2.2.2.2.2.2.2.2.1 : Nat) : Int)) = left - ((wAcct x : Nat) : Int) := by omega
  rw [e]
theorem toAcct (x : ((List UInt8) × Int × Int × Int × Int × (List R93) × Int × Int × (List R3) × (List R3) × (List R98) × Unit)) (h : wAcct x ≤ 1048576) : g7 x = some ((), (x, ())) := by
  have hw : wAcct x = x.1.length + wL wHold x.2.2.2.2.2.1 + wRing (x.2.2.2.2.2.2.1, x.2.2.2.2.2.2.2.1, x.2.2.2.2.2.2.2.2.1, x.2.2.2.2.2.2.2.2.2.1, ()) + wL wSlot x.2.2.2.2.2.2.2.2.2.2.1 := rfl
  unfold g7
  rw [toHoldS x.2.2.2.2.2.1 (by omega)]
  rw [toRing (x.2.2.2.2.2.2.1, x.2.2.2.2.2.2.2.1, x.2.2.2.2.2.2.2.2.1, x.2.2.2.2.2.2.2.2.2.1, ()) (by omega)]
  rw [toSlotS x.2.2.2.2.2.2.2.2.2.2.1 (by omega)]
  rfl
theorem eqAcct (x : ((List UInt8) × Int × Int × Int × Int × (List R93) × Int × Int × (List R3) × (List R3) × (List R98) × Unit)) (h : wAcct x ≤ 1099511627776) : g9 x x = some ((), ((true, ()), ())) := by
  have hw : wAcct x = x.1.length + wL wHold x.2.2.2.2.2.1 + wRing (x.2.2.2.2.2.2.1, x.2.2.2.2.2.2.2.1, x.2.2.2.2.2.2.2.2.1, x.2.2.2.2.2.2.2.2.2.1, ()) + wL wSlot x.2.2.2.2.2.2.2.2.2.2.1 := rfl
  unfold g9
  simp only [eqI_refl, eqS_refl, Bool.not_true, cond_false, Option.bind_some, beq_self_eq_true, eqHoldS x.2.2.2.2.2.1 (by omega), eqRing (x.2.2.2.2.2.2.1, x.2.2.2.2.2.2.2.1, x.2.2.2.2.2.2.2.2.1, x.2.2.2.2.2.2.2.2.2.1, ()) (by omega), eqSlotS x.2.2.2.2.2.2.2.2.2.2.1 (by omega)]
end Go.Av

