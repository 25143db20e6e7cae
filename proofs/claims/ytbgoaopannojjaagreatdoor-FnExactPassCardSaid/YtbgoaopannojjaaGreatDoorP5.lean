/- The law FnExactPass answers true for every input, and its arguments read as they did. No conditions beyond the statement. -/
import Derived.Test.YtbgoaopannojjaaGreatDoorP4
import Derived.Lay
import Derived.Test.YtbgoaopannojjaaGreatDoorFw4
import Derived.Test.YtbgoaopannojjaaGreatDoorRows
import Derived.Test.YtbgoaopannojjaaGreatDoorCards
import Derived.Test.YtbgoaopannojjaaGreatDoorTie
set_option maxRecDepth 100000
set_option maxHeartbeats 4000000
namespace Go.Av
theorem Gq (x:((List UInt8)×Int×Int×Unit)) (h:ur [.str,.int .i64,.int .i64] x):wW x:=h.1
theorem FF (x:((List UInt8)×(List UInt8)×(List R5)×Unit)) (h:ur [.str,.str,.sl 5 ub] x):wo x:=⟨h.1,h.2.1,h.2.2.1.1⟩
theorem G6 (x:((List UInt8)×Int×Int×Int×Int×(List gr)×Int×Int×(List R3)×(List R3)×(List cu)×Unit)) (h:ur [.str,.int .i64,.int .i64,.int .i64,.int .i64,.sl 95 CC,.int .i64,.int .i64,.sl 3 ll,.sl 3 ll,.sl 166 vM] x):uT x:=⟨h.1,⟨h.2.2.2.2.2.1.1,fun y hy=>Gq y (h.2.2.2.2.2.1.2 y hy)⟩,⟨h.2.2.2.2.2.2.2.2.1.1,h.2.2.2.2.2.2.2.2.2.1.1⟩,⟨h.2.2.2.2.2.2.2.2.2.2.1.1,fun y hy=>FF y (h.2.2.2.2.2.2.2.2.2.2.1.2 y hy)⟩⟩
theorem BZ (x:(Int×(List gL)×Unit)) (h:ur [.int .i64,.sl 164 xA] x):mK x:=⟨h.2.1.1,fun y hy=>G6 y (h.2.1.2 y hy)⟩
theorem Gv (x:((List R5)×Int×(List R3)×Int×Int×Int×Int×Int×(List R5)×Unit)) (h:ur [.sl 5 ub,.int .i64,.sl 3 ll,.int .i64,.int .i64,.int .i64,.int .i64,.int .i64,.sl 5 ub] x):xj x:=⟨h.1.1,h.2.2.1.1,h.2.2.2.2.2.2.2.2.1.1⟩
theorem DS (x:((List p7)×Int×Int×(List nJ)×Unit)) (h:ur [.sl 81 F6,.int .i64,.int .i64,.sl 83 GC] x):zR x:=⟨⟨h.1.1,fun y hy=>BZ y (h.1.2 y hy)⟩,⟨h.2.2.2.1.1,fun y hy=>Gv y (h.2.2.2.1.2 y hy)⟩⟩
theorem Gm (x:((List UInt8)×(List UInt8)×(List R5)×Unit)) (h:ur [.str,.str,.sl 5 ub] x):JL x:=(fun y hy=>(h.2.2.1.2 y hy).1)
theorem He (x:((List UInt8)×Int×Int×Int×Int×(List gr)×Int×Int×(List R3)×(List R3)×(List cu)×Unit)) (h:ur [.str,.int .i64,.int .i64,.int .i64,.int .i64,.sl 95 CC,.int .i64,.int .i64,.sl 3 ll,.sl 3 ll,.sl 166 vM] x):JU x:=(fun y hy=>Gm y (h.2.2.2.2.2.2.2.2.2.2.1.2 y hy))
theorem AI (x:(Int×(List gL)×Unit)) (h:ur [.int .i64,.sl 164 xA] x):BG x:=(fun y hy=>He y (h.2.1.2 y hy))
theorem GQ (x:((List R5)×Int×(List R3)×Int×Int×Int×Int×Int×(List R5)×Unit)) (h:ur [.sl 5 ub,.int .i64,.sl 3 ll,.int .i64,.int .i64,.int .i64,.int .i64,.int .i64,.sl 5 ub] x):De x:=⟨(fun y hy=>(h.1.2 y hy).1),(fun y hy=>(h.2.2.2.2.2.2.2.2.1.2 y hy).1)⟩
theorem CM (x:((List p7)×Int×Int×(List nJ)×Unit)) (h:ur [.sl 81 F6,.int .i64,.int .i64,.sl 83 GC] x):zd x:=⟨(fun y hy=>AI y (h.1.2 y hy)),(fun y hy=>GQ y (h.2.2.2.1.2 y hy))⟩
end Go.Av
namespace Go.Proofs.YtbgoaopannojjaaGreatDoor
open Go.ChangeShapes Go.WideShapes Go.ChangeAt Go.RowKit Go.Av
theorem Tryz.own:ownKnob Tryz.prog.godebug=none:=by kernel_rfl
theorem Tryz.laidOut:laidOutB Tryz.prog=true:=by kernel_rfl
theorem SN : Tryz.prog.globalNamed "internal/strconv.uint64pow10" = some 0 := by kernel_rfl
theorem ER : "*" ++ "errors.errorString" = "*errors.errorString" := by decide
theorem Kb (u : TypeId) (h : Tryz.prog.typeName? 3 u = some "*errors.errorString") : u = 305 :=
 typeName_ptr_named (nm := "errors.errorString") (by rw [ER]; kernel_rfl) (by kernel_rfl) (by decide) u (by rw [ER]; exact h)
theorem pq : Tryz.prog.globalNamed "strconv.ErrSyntax" = some 3 := by kernel_rfl
theorem sd : Tryz.prog.globalNamed "strconv.ErrRange" = some 4 := by kernel_rfl
theorem aa0 {W:World} (hsh:W.ShapedOpen Tryz.prog) (h:laidMetH Tryz.prog Rows.fnExactPassRow.laid W):Gl Tryz.prog W (fI W):=by
 rw [MakeChecks.laidMetH_plain _ _ _ (by kernel_rfl)] at h
 have e : Rows.fnExactPassRow.laid = [("math/bits.deBruijn32tab", Rows.laid_math_bits_deBruijn32tab), ("math/bits.deBruijn64tab", Rows.laid_math_bits_deBruijn64tab), ("internal/strconv.uint64pow10", Lib.tabData .u64 Lib.pow10Tab), ("unicode/utf8.acceptRanges", Rows.laid_unicode_utf8_acceptRanges), ("strconv.ErrRange", Rows.laid_strconv_ErrRange), ("strconv.ErrSyntax", Rows.laid_strconv_ErrSyntax), ("unicode/utf8.first", Rows.laid_unicode_utf8_first)] := by kernel_rfl
 rw [e] at h;exact Ps gl0 ⟨.inr ⟨_,SN,LI SN (Lib.tabIs_of_head (t:=259) (e:=212) (n:=20) SN (by kernel_rfl) (by kernel_rfl) (by kernel_rfl) (by kernel_rfl) (by kernel_rfl) h.tail.tail)⟩,.inr ⟨7,by kernel_rfl,Oi (t:=3) (zero := #[.int .i64 0]) hsh (by decide +kernel) (by kernel_rfl) rfl (by kernel_rfl) (by kernel_rfl) (by kernel_rfl)⟩,.inr ⟨_,pq,JF (X:=fun _=>True) pq ((laid_sentinel h.tail.tail.tail.tail.tail pq (by kernel_rfl) Tryz.underlying242 Kb Tryz.underlying305 Tryz.underlying307 rfl rfl Tryz.underlying9 (by kernel_rfl) (by kernel_rfl)).imp fun _ h=>⟨h.choose_spec.1,trivial⟩)⟩,.inr ⟨_,sd,JF (X:=fun _=>True) sd ((laid_sentinel h.tail.tail.tail.tail sd (by kernel_rfl) Tryz.underlying242 Kb Tryz.underlying305 Tryz.underlying307 rfl rfl Tryz.underlying9 (by kernel_rfl) (by kernel_rfl)).imp fun _ h=>⟨h.choose_spec.1,trivial⟩)⟩,trivial⟩
theorem MF (os:Os) (args:Array Value):laidMetH Tryz.prog Rows.fnExactPassRow.laid ((World.laidAll Tryz.prog os Rows.fnExactPassRow.laid).forCall (fun _ _=>0) ⟨#[],args,[]⟩).memory :=
 by rw [MakeChecks.laidMetH_plain _ _ _ (by kernel_rfl)]; exact laidMet_laidAll _ (by kernel_rfl) (by kernel_rfl)
theorem CZ (os:Os):(World.laidAll Tryz.prog os Rows.fnExactPassRow.laid).Shaped Tryz.prog:=World.shaped_of_ZipB (by kernel_rfl) (by kernel_rfl)
theorem RZ:Tryz.prog.inPlace 4=Rows.fnExactPassRow.inPlace:=by kernel_rfl
theorem Sy:Tryz.prog.unfollowed 4=Rows.fnExactPassRow.unfollowed:=by kernel_rfl
theorem QX:Tryz.prog.recurses 4=Rows.fnExactPassRow.recurses:=by kernel_rfl
theorem Q2:Tryz.prog.varsNamed 4=Rows.fnExactPassRow.named:=by kernel_rfl
theorem Qn:joinedFacts Tryz.prog 4 Tryz.f4 Rows.fnExactPassSpec Rows.fnExactPassRow=true:=by unfold joinedFacts;rw [RZ,Sy,QX,Q2];kernel_rfl
theorem RW:Rows.fnExactPassRow.wfByText (OpenSpec.ofChange Rows.fnExactPassSpec)=true:=by kernel_rfl
theorem Rx : Tryz.prog.mainIs = some ((true, "63520011f0a2b22137a1671335d861aaeec399f60ad374b0d994d8a8995ab031").1, (true, "63520011f0a2b22137a1671335d861aaeec399f60ad374b0d994d8a8995ab031").2.toList) := by kernel_rfl
theorem SI:true=Tryz.prog.looks []:=by kernel_rfl
theorem RM:false=Rows.fnExactPassRow.goesBy Tryz.prog:=by kernel_rfl
theorem C2 (os:Os) (started:os.Started) (H:Type) (enc:TypeId×Value->H) :
 ReturnsInHanded {} Tryz.checked os 4 .any (fun w args=>(Rows.fnExactPassSpec.pre enc Tryz.prog Tryz.f4 Rows.fnExactPassRow.domain false w args/\laidMetH Tryz.prog Rows.fnExactPassRow.laid w)/\sizedMet enc Tryz.prog Tryz.f4 (OpenSpec.ofChange Rows.fnExactPassSpec) false w args) (Rows.fnExactPassSpec.post enc Tryz.prog Tryz.f4 false true false false):=by
 refine Cc (C:=Tryz.checked) (X:=fun w _=>laidMetH Tryz.prog Rows.fnExactPassRow.laid w) (fun _ _ _ hh h=>h.of_heap hh) Tryz.own started (by kernel_rfl) Tryz.func4
  (ChangeSpec.witness_shaped (enc:=enc) (C:=Tryz.checked) (os:=os) (X:=fun w _=>laidMetH Tryz.prog Rows.fnExactPassRow.laid w) false (World.laidAll Tryz.prog os Rows.fnExactPassRow.laid) #[.agg #[.slice none 0 0,.int .i64 0,.int .i64 0,.slice none 0 0],.int .i64 0] 8 (World.laidAll_os _ _ _) (CZ os) (by kernel_rfl) (by kernel_rfl) (by kernel_rfl) (MF os _)) ?_
 intro W base args ds gs before hval hW hwt hL hsh;have hW':=hW;obtain ⟨p,q,hA,hV,_,_,_⟩:=hW';obtain ⟨rfl,rfl⟩:gs=[]/\q=[]:=by
  cases gs with
  | nil=>exact ⟨rfl,hV⟩
  | cons _ _=>exact hV.elim
 have hwt2:∀ m∈DataW.weightsEach Tryz.prog Tryz.f4.params.toList ds,m<=aT:=fun m hm=>by
  have e:Rows.fnExactPassSpec.plain.varTypes Tryz.checked.prog=[]:=rfl;rw [e,List.append_nil,List.append_nil] at hwt;have:=List.all_eq_true.1 hwt m hm;have h2:m<=reachBytes:=by simpa using this
  exact Nat.le_trans h2 (by decide)
 obtain ⟨x,hx,hbg⟩:=BV (E:=E0) (P:=Tryz.prog) hT Tryz.f4.params.toList s4.ps (by kernel_rfl) args.toList ds p 0 hA (fun j t v ht hv=>hval j t v (by rw [<- Array.getElem?_toList]; exact ht) (by rw [<- Array.getElem?_toList]; exact hv)) hwt2;refine (GF (P:=Tryz.prog) (c:=ak Tryz.f4) ok4 Tryz.func4 (by kernel_rfl) (by kernel_rfl) (aa0 hsh hL) hx ⟨_,KP x.1 x.2.1.1 (DS x.1 hbg.1) (CM x.1 hbg.1),fun _ _ _ _ hr=>Hq hr⟩).mono fun e W' ⟨he,hb⟩=>⟨_,he,?_⟩
 have hlen:ds.length=2:=B5 _ _ _ _ hA;obtain ⟨d1,d2,rfl⟩:∃ d1 d2,ds=[d1,d2]:=by
  match ds,hlen with
  | [d1,d2],_=>exact ⟨d1,d2,rfl⟩
 exact IC (rt:=4) Tryz.laidOut rfl (by kernel_rfl) (by kernel_rfl) (by decide +kernel) hW hb rfl
theorem NG:Rows.FnExactPassSaid :=
 OpenClaim.holds_of_wide 4 Tryz.f4 rfl rfl rfl rfl rfl rfl rfl ⟨rfl,rfl,rfl,rfl,rfl⟩ rfl rfl rfl rfl rfl (by kernel_rfl) Tryz.func4 Qn
  (of_decide_eq_true (by kernel_rfl)) (by unfold Func.isWrapper; first | (rw [if_pos (by decide +kernel)]; kernel_rfl) | (rw [if_neg (by decide +kernel)]; exact ⟨rfl,rfl⟩))
  (fun os started H enc _=>C2 os started H enc)
theorem pas_holds:Rows.FnExactPassCardSaid :=
 Claim7.holds_tied_plain_at .later [] [.data, .data, .data, .data, .sentinel, .sentinel, .pinned] true (true, "63520011f0a2b22137a1671335d861aaeec399f60ad374b0d994d8a8995ab031") true
  NG (fun _ h=>by cases h) RW (fun _ h=>by cases h) fnExactPass_row_tie rfl ⟨rfl,rfl⟩ Rx rfl
  (fun f fn hf hfn=>by
    obtain rfl : f = 4 := Option.some.inj ((show Tryz.prog.funcNamed "loop.example/g00735/laws.FnExactPass" = some 4 by kernel_rfl).symm.trans hf) |>.symm
    obtain rfl:fn=Tryz.f4:=(Option.some.inj (Tryz.func4.symm.trans hfn)).symm;exact ⟨SI,fun j t ht=>by
     have hm:t∈[25,3]:=by
      have e:Tryz.f4.params.toList=[25,3]:=by kernel_rfl
      rw [<- e]; exact Array.mem_toList_iff.2 (Array.mem_of_getElem? ht)
     have hall:([25,3].all fun u=> !Tryz.prog.wantsStandIn u)=true:=by kernel_rfl
     exact (show Tryz.prog.wantsStandIn t=false by simpa using List.all_eq_true.1 hall t hm)⟩)
  RM
end Go.Proofs.YtbgoaopannojjaaGreatDoor
#print axioms Go.Proofs.YtbgoaopannojjaaGreatDoor.pas_holds
