/- The law FnExactDeal answers true for every input, and its arguments read as they did. No conditions beyond the statement. -/
import Derived.Test.YtjflhhoafpgfhaaGreatDoorP4
import Derived.Test.YtjflhhoafpgfhaaGreatDoorFw4
import Derived.Test.YtjflhhoafpgfhaaGreatDoorRows
import Derived.Test.YtjflhhoafpgfhaaGreatDoorCards
import Derived.Test.YtjflhhoafpgfhaaGreatDoorTie
set_option maxRecDepth 100000
set_option maxHeartbeats 4000000
namespace Go.Av
theorem bgHold_of (x : ((List UInt8) × Int × Int × Unit)) (h : BgL [.str, .int .i64, .int .i64] x) : bgHold x := h.1
theorem bgSlot_of (x : ((List UInt8) × (List UInt8) × (List R5) × Unit)) (h : BgL [.str, .str, .sl 5 kk5] x) : bgSlot x := ⟨h.1, h.2.1, h.2.2.1.1⟩
theorem bgAcct_of (x : ((List UInt8) × Int × Int × Int × Int × (List R93) × Int × Int × (List R3) × (List R3) × (List R98) × Unit)) (h : BgL [.str, .int .i64, .int .i64, .int .i64, .int .i64, .sl 93 kk93, .int .i64, .int .i64, .sl 3 kk3, .sl 3 kk3, .sl 98 kk98] x) : bgAcct x := ⟨h.1, ⟨h.2.2.2.2.2.1.1, fun y hy => bgHold_of y (h.2.2.2.2.2.1.2 y hy)⟩, ⟨h.2.2.2.2.2.2.2.2.1.1, h.2.2.2.2.2.2.2.2.2.1.1⟩, ⟨h.2.2.2.2.2.2.2.2.2.2.1.1, fun y hy => bgSlot_of y (h.2.2.2.2.2.2.2.2.2.2.1.2 y hy)⟩⟩
theorem bgBook_of (x : ((List R28) × Unit)) (h : BgL [.sl 28 kk28] x) : bgBook x := ⟨h.1.1, fun y hy => bgAcct_of y (h.1.2 y hy)⟩
theorem bgReq_of (x : (Int × (List UInt8) × (List UInt8) × (List UInt8) × (List UInt8) × (List UInt8) × Int × Int × Unit)) (h : BgL [.int .i64, .str, .str, .str, .str, .str, .int .i64, .int .i64] x) : bgReq x := ⟨h.2.1, h.2.2.1, h.2.2.2.1, h.2.2.2.2.1, h.2.2.2.2.2.1⟩
end Go.Av
namespace Go.Proofs.YtjflhhoafpgfhaaGreatDoor
open Go.ChangeShapes Go.WideShapes Go.ChangeAt Go.RowKit Go.Av
theorem Tryz.own : ownKnob Tryz.prog.godebug = none := by kernel_rfl
theorem Tryz.laidOut : laidOutB Tryz.prog = true := by kernel_rfl
theorem gpow : Tryz.prog.globalNamed "internal/strconv.uint64pow10" = some 0 := by kernel_rfl
theorem glob {W : World} (hsh : W.ShapedOpen Tryz.prog) (h : laidMetH Tryz.prog Rows.fnExactDealRow.laid W) : Gl Tryz.prog W (Zall W) := by
 rw [MakeChecks.laidMetH_plain _ _ _ (by kernel_rfl)] at h
 have e : Rows.fnExactDealRow.laid = [("math/bits.deBruijn32tab", Rows.laid_math_bits_deBruijn32tab), ("math/bits.deBruijn64tab", Rows.laid_math_bits_deBruijn64tab), ("internal/strconv.uint64pow10", Lib.tabData .u64 Lib.pow10Tab)] := by kernel_rfl
 rw [e] at h
 exact gl_of gl0 ⟨.inr ⟨_, gpow, tabP_of gpow (Lib.tabIs_of_head (t := 201) (e := 181) (n := 20) gpow (by kernel_rfl) (by kernel_rfl) (by kernel_rfl) (by kernel_rfl) (by kernel_rfl) h.tail.tail)⟩, .inr ⟨1, by kernel_rfl, i64P_of (t := 3) (zero := #[.int .i64 0]) hsh (by decide +kernel) (by kernel_rfl) rfl (by kernel_rfl) (by kernel_rfl) (by kernel_rfl)⟩, .inl (by kernel_rfl), .inl (by kernel_rfl), trivial⟩
theorem deal_met (os : Os) (args : Array Value) : laidMetH Tryz.prog Rows.fnExactDealRow.laid ((World.doorLaid Tryz.prog 24 os).forCall (fun _ _ => 0) ⟨#[], args, []⟩).memory :=
 laidMetH_of_parts3 (fuel := 8) (laidMet_of_run' 8 (by kernel_rfl) (by kernel_rfl)) (by kernel_rfl) (by kernel_rfl)
theorem deal_lifted (os : Os) (started : os.Started) (H : Type) (enc : TypeId × Value → H) :
 ReturnsInHanded {} Tryz.checked os 4 .any (fun w args => (Rows.fnExactDealSpec.pre enc Tryz.prog Tryz.f4 Rows.fnExactDealRow.domain false w args ∧ laidMetH Tryz.prog Rows.fnExactDealRow.laid w) ∧ sizedMet enc Tryz.prog Tryz.f4 (OpenSpec.ofChange Rows.fnExactDealSpec) false w args) (Rows.fnExactDealSpec.post enc Tryz.prog Tryz.f4 false true false false) := by
 refine handed_laid (C := Tryz.checked) (X := fun w _ => laidMetH Tryz.prog Rows.fnExactDealRow.laid w) (fun _ _ _ hh h => h.of_heap hh) Tryz.own started (by kernel_rfl) Tryz.func4
  (ChangeSpec.witness_shaped (enc := enc) (C := Tryz.checked) (os := os) (X := fun w _ => laidMetH Tryz.prog Rows.fnExactDealRow.laid w) false (World.doorLaid Tryz.prog 24 os) #[.agg #[.slice none 0 0], .agg #[.int .i64 0, .string ⟨#[]⟩, .string ⟨#[]⟩, .string ⟨#[]⟩, .string ⟨#[]⟩, .string ⟨#[]⟩, .int .i64 0, .int .i64 0], .int .i64 0] 8 rfl (World.shaped_of_RefB (by kernel_rfl) (by kernel_rfl)) (by kernel_rfl) (by kernel_rfl) (by kernel_rfl) (deal_met os _)) ?_
 intro W base args ds gs before hval hW hwt hL hsh
 have hW' := hW
 obtain ⟨p, q, hA, hV, _, _, _⟩ := hW'
 obtain ⟨rfl, rfl⟩ : gs = [] ∧ q = [] := by
  cases gs with
  | nil => exact ⟨rfl, hV⟩
  | cons _ _ => exact hV.elim
 have hwt2 : ∀ m ∈ DataW.weightsEach Tryz.prog Tryz.f4.params.toList ds, m ≤ big := fun m hm => by
  have e : Rows.fnExactDealSpec.plain.varTypes Tryz.checked.prog = [] := rfl
  rw [e, List.append_nil, List.append_nil] at hwt
  have := List.all_eq_true.1 hwt m hm
  have h2 : m ≤ reachBytes := by simpa using this
  exact Nat.le_trans h2 (by decide)
 obtain ⟨x, hx, hbg⟩ := args_all (E := E0) (P := Tryz.prog) hT Tryz.f4.params.toList s4.ps (by kernel_rfl) args.toList ds p 0 hA (fun j t v ht hv => hval j t v (by rw [← Array.getElem?_toList]; exact ht) (by rw [← Array.getElem?_toList]; exact hv)) hwt2
 refine (law_calls (P := Tryz.prog) (c := bodyOf Tryz.f4) ok4 Tryz.func4 (by kernel_rfl) (by kernel_rfl) (glob hsh hL) hx ⟨_, deal_law x.1 x.2.1 x.2.2.1.1 (bgBook_of x.1 hbg.1) (bgReq_of x.2.1 hbg.2.1), fun _ _ _ _ hr => resR_bool hr⟩).mono fun e W' ⟨he, hb⟩ => ⟨_, he, ?_⟩
 have hlen : ds.length = 3 := trod_len _ _ _ _ hA
 obtain ⟨d1, d2, d3, rfl⟩ : ∃ d1 d2 d3, ds = [d1, d2, d3] := by
  match ds, hlen with
  | [d1, d2, d3], _ => exact ⟨d1, d2, d3, rfl⟩
 exact law_post (rt := 4) Tryz.laidOut rfl (by kernel_rfl) (by kernel_rfl) (by decide +kernel) hW hb rfl
theorem deal_row : Rows.FnExactDealSaid :=
 OpenClaim.holds_of_wide 4 Tryz.f4 rfl rfl rfl rfl rfl rfl rfl ⟨rfl, rfl, rfl, rfl, rfl⟩ rfl rfl rfl rfl rfl (by kernel_rfl) Tryz.func4 (by kernel_rfl)
  (of_decide_eq_true (by kernel_rfl)) (by unfold Func.isWrapper; first | (rw [if_pos (by decide +kernel)]; kernel_rfl) | (rw [if_neg (by decide +kernel)]; exact ⟨rfl, rfl⟩))
  (fun os started H enc _ => deal_lifted os started H enc)
theorem deal_holds : Rows.FnExactDealCardSaid :=
 Claim7.holds_tied_plain_at .later [] [.data, .data, .data] true (true, "f526552ebb1835b0a2f8e90eaebfcd8e868f463967dc0e92f56c8d687b0fba93") false
  deal_row (fun _ h => by cases h) (by kernel_rfl) (fun _ h => by cases h) fnExactDeal_row_tie rfl ⟨rfl, rfl⟩ (by kernel_rfl) rfl
  (fun f fn hf hfn => by
    obtain rfl : f = 4 := Option.some.inj ((show Tryz.prog.funcNamed "loop.example/g00735/laws.FnExactDeal" = some 4 by kernel_rfl).symm.trans hf) |>.symm
    obtain rfl : fn = Tryz.f4 := (Option.some.inj (Tryz.func4.symm.trans hfn)).symm
    exact ⟨by kernel_rfl, fun j t ht => by
     have hm : t ∈ [42, 44, 3] := by
      have e : Tryz.f4.params.toList = [42, 44, 3] := by kernel_rfl
      rw [← e]; exact Array.mem_toList_iff.2 (Array.mem_of_getElem? ht)
     have hall : ([42, 44, 3].all fun u => !Tryz.prog.wantsStandIn u) = true := by kernel_rfl
     exact (show Tryz.prog.wantsStandIn t = false by simpa using List.all_eq_true.1 hall t hm)⟩)
  (by kernel_rfl)
end Go.Proofs.YtjflhhoafpgfhaaGreatDoor
#print axioms Go.Proofs.YtjflhhoafpgfhaaGreatDoor.deal_holds
