/- The law FnExactWaitChain answers true for every input, and its arguments read as they did. No conditions beyond the statement. -/
import Derived.Test.YtpgkhfcgbjangaaGreatDoorP4
import Derived.Lay
import Derived.Test.YtpgkhfcgbjangaaGreatDoorFw4
import Derived.Test.YtpgkhfcgbjangaaGreatDoorRows
import Derived.Test.YtpgkhfcgbjangaaGreatDoorCards
import Derived.Test.YtpgkhfcgbjangaaGreatDoorTie
set_option maxRecDepth 100000
set_option maxHeartbeats 4000000
namespace Go.Av
theorem FM (x:((List UInt8)×Int×Int×Unit)) (h:tH [.str,.int .i64,.int .i64] x):wD x:=h.1
theorem Ft (x:((List UInt8)×(List UInt8)×(List R5)×Unit)) (h:tH [.str,.str,.sl 5 fK] x):xj x:=⟨h.1,h.2.1,h.2.2.1.1⟩
theorem F5 (x:((List UInt8)×Int×Int×Int×Int×(List cG)×Int×Int×(List R3)×(List R3)×(List cw)×Unit)) (h:tH [.str,.int .i64,.int .i64,.int .i64,.int .i64,.sl 157 dx,.int .i64,.int .i64,.sl 3 aJ,.sl 3 aJ,.sl 160 cU] x):wR x:=⟨h.1,⟨h.2.2.2.2.2.1.1,fun y hy=>FM y (h.2.2.2.2.2.1.2 y hy)⟩,⟨h.2.2.2.2.2.2.2.2.1.1,h.2.2.2.2.2.2.2.2.2.1.1⟩,⟨h.2.2.2.2.2.2.2.2.2.2.1.1,fun y hy=>Ft y (h.2.2.2.2.2.2.2.2.2.2.1.2 y hy)⟩⟩
theorem Ci (x:(Int×(List di)×Unit)) (h:tH [.int .i64,.sl 92 bz] x):mq x:=⟨h.2.1.1,fun y hy=>F5 y (h.2.1.2 y hy)⟩
theorem E7 (x:((List R5)×Int×(List R3)×Int×Int×Int×Int×Int×(List R5)×Unit)) (h:tH [.sl 5 fK,.int .i64,.sl 3 aJ,.int .i64,.int .i64,.int .i64,.int .i64,.int .i64,.sl 5 fK] x):vW x:=⟨h.1.1,h.2.2.1.1,h.2.2.2.2.2.2.2.2.1.1⟩
theorem Cu (x:((List pT)×Int×Int×(List nS)×Unit)) (h:tH [.sl 84 nH,.int .i64,.int .i64,.sl 86 gV] x):zc x:=⟨⟨h.1.1,fun y hy=>Ci y (h.1.2 y hy)⟩,⟨h.2.2.2.1.1,fun y hy=>E7 y (h.2.2.2.1.2 y hy)⟩⟩
theorem GQ (x:((List UInt8)×(List UInt8)×(List R5)×Unit)) (h:tH [.str,.str,.sl 5 fK] x):Iz x:=(fun y hy=>(h.2.2.1.2 y hy).1)
theorem F6 (x:((List UInt8)×Int×Int×Int×Int×(List cG)×Int×Int×(List R3)×(List R3)×(List cw)×Unit)) (h:tH [.str,.int .i64,.int .i64,.int .i64,.int .i64,.sl 157 dx,.int .i64,.int .i64,.sl 3 aJ,.sl 3 aJ,.sl 160 cU] x):J4 x:=(fun y hy=>GQ y (h.2.2.2.2.2.2.2.2.2.2.1.2 y hy))
theorem BZ (x:(Int×(List di)×Unit)) (h:tH [.int .i64,.sl 92 bz] x):A5 x:=(fun y hy=>F6 y (h.2.1.2 y hy))
theorem Fb (x:((List R5)×Int×(List R3)×Int×Int×Int×Int×Int×(List R5)×Unit)) (h:tH [.sl 5 fK,.int .i64,.sl 3 aJ,.int .i64,.int .i64,.int .i64,.int .i64,.int .i64,.sl 5 fK] x):C5 x:=⟨(fun y hy=>(h.1.2 y hy).1),(fun y hy=>(h.2.2.2.2.2.2.2.2.1.2 y hy).1)⟩
theorem CG (x:((List pT)×Int×Int×(List nS)×Unit)) (h:tH [.sl 84 nH,.int .i64,.int .i64,.sl 86 gV] x):zQ x:=⟨(fun y hy=>BZ y (h.1.2 y hy)),(fun y hy=>Fb y (h.2.2.2.1.2 y hy))⟩
end Go.Av
namespace Go.Proofs.YtpgkhfcgbjangaaGreatDoor
open Go.ChangeShapes Go.WideShapes Go.ChangeAt Go.RowKit Go.Av
theorem Tryz.own:ownKnob Tryz.prog.godebug=none:=by kernel_rfl
theorem Tryz.laidOut:laidOutB Tryz.prog=true:=by kernel_rfl
theorem QM : Tryz.prog.globalNamed "internal/strconv.uint64pow10" = some 5 := by kernel_rfl
theorem DL : "*" ++ "errors.errorString" = "*errors.errorString" := by decide
theorem Ju (u : TypeId) (h : Tryz.prog.typeName? 3 u = some "*errors.errorString") : u = 286 :=
 typeName_ptr_named (nm := "errors.errorString") (by rw [DL]; kernel_rfl) (by kernel_rfl) (by decide) u (by rw [DL]; exact h)
theorem oJ : Tryz.prog.globalNamed "strconv.ErrSyntax" = some 0 := by kernel_rfl
theorem sj : Tryz.prog.globalNamed "strconv.ErrRange" = some 1 := by kernel_rfl
theorem XY {W:World} (hsh:W.ShapedOpen Tryz.prog) (h:laidMetH Tryz.prog Rows.fnExactWaitChainRow.laid W):Gl Tryz.prog W (fM W):=by
 rw [MakeChecks.laidMetH_plain _ _ _ (by kernel_rfl)] at h
 have e : Rows.fnExactWaitChainRow.laid = [("math/bits.deBruijn32tab", Rows.laid_math_bits_deBruijn32tab), ("math/bits.deBruijn64tab", Rows.laid_math_bits_deBruijn64tab), ("internal/strconv.uint64pow10", Lib.tabData .u64 Lib.pow10Tab), ("unicode/utf8.acceptRanges", Rows.laid_unicode_utf8_acceptRanges), ("strconv.ErrRange", Rows.laid_strconv_ErrRange), ("strconv.ErrSyntax", Rows.laid_strconv_ErrSyntax), ("unicode/utf8.first", Rows.laid_unicode_utf8_first)] := by kernel_rfl
 rw [e] at h;exact NL ZZ ⟨.inr ⟨_,QM,MO QM (Lib.tabIs_of_head (t:=301) (e:=228) (n:=20) QM (by kernel_rfl) (by kernel_rfl) (by kernel_rfl) (by kernel_rfl) (by kernel_rfl) h.tail.tail)⟩,.inr ⟨4,by kernel_rfl,My (t:=3) (zero := #[.int .i64 0]) hsh (by decide +kernel) (by kernel_rfl) rfl (by kernel_rfl) (by kernel_rfl) (by kernel_rfl)⟩,.inr ⟨_,oJ,Jx (X:=fun _=>True) oJ ((laid_sentinel h.tail.tail.tail.tail.tail oJ (by kernel_rfl) Tryz.underlying235 Ju Tryz.underlying286 Tryz.underlying288 rfl rfl Tryz.underlying9 (by kernel_rfl) (by kernel_rfl)).imp fun _ h=>⟨h.choose_spec.1,trivial⟩)⟩,.inr ⟨_,sj,Jx (X:=fun _=>True) sj ((laid_sentinel h.tail.tail.tail.tail sj (by kernel_rfl) Tryz.underlying235 Ju Tryz.underlying286 Tryz.underlying288 rfl rfl Tryz.underlying9 (by kernel_rfl) (by kernel_rfl)).imp fun _ h=>⟨h.choose_spec.1,trivial⟩)⟩,trivial⟩
theorem Nj (os:Os) (args:Array Value):laidMetH Tryz.prog Rows.fnExactWaitChainRow.laid ((World.laidAll Tryz.prog os Rows.fnExactWaitChainRow.laid).forCall (fun _ _=>0) ⟨#[],args,[]⟩).memory :=
 by rw [MakeChecks.laidMetH_plain _ _ _ (by kernel_rfl)]; exact laidMet_laidAll _ (by kernel_rfl) (by kernel_rfl)
theorem DE (os:Os):(World.laidAll Tryz.prog os Rows.fnExactWaitChainRow.laid).Shaped Tryz.prog:=World.shaped_of_ZipB (by kernel_rfl) (by kernel_rfl)
theorem Po:Tryz.prog.inPlace 7=Rows.fnExactWaitChainRow.inPlace:=by kernel_rfl
theorem QU:Tryz.prog.unfollowed 7=Rows.fnExactWaitChainRow.unfollowed:=by kernel_rfl
theorem Qe:Tryz.prog.recurses 7=Rows.fnExactWaitChainRow.recurses:=by kernel_rfl
theorem PA:Tryz.prog.varsNamed 7=Rows.fnExactWaitChainRow.named:=by kernel_rfl
theorem QQ:joinedFacts Tryz.prog 7 Tryz.f7 Rows.fnExactWaitChainSpec Rows.fnExactWaitChainRow=true:=by unfold joinedFacts;rw [Po,QU,Qe,PA];kernel_rfl
theorem Qh:Rows.fnExactWaitChainRow.wfByText (OpenSpec.ofChange Rows.fnExactWaitChainSpec)=true:=by kernel_rfl
theorem Pl : Tryz.prog.mainIs = some ((true, "e65d4345de9ba8f0a70f1efa7cdc30cd65a8e23288ae680d224a034d030917e2").1, (true, "e65d4345de9ba8f0a70f1efa7cdc30cd65a8e23288ae680d224a034d030917e2").2.toList) := by kernel_rfl
theorem Q2:true=Tryz.prog.looks []:=by kernel_rfl
theorem Qj:false=Rows.fnExactWaitChainRow.goesBy Tryz.prog:=by kernel_rfl
theorem DD (os:Os) (started:os.Started) (H:Type) (enc:TypeId×Value->H) :
 ReturnsInHanded {} Tryz.checked os 7 .any (fun w args=>(Rows.fnExactWaitChainSpec.pre enc Tryz.prog Tryz.f7 Rows.fnExactWaitChainRow.domain false w args/\laidMetH Tryz.prog Rows.fnExactWaitChainRow.laid w)/\sizedMet enc Tryz.prog Tryz.f7 (OpenSpec.ofChange Rows.fnExactWaitChainSpec) false w args) (Rows.fnExactWaitChainSpec.post enc Tryz.prog Tryz.f7 false true false false):=by
 refine BA (C:=Tryz.checked) (X:=fun w _=>laidMetH Tryz.prog Rows.fnExactWaitChainRow.laid w) (fun _ _ _ hh h=>h.of_heap hh) Tryz.own started (by kernel_rfl) Tryz.func7
  (ChangeSpec.witness_shaped (enc:=enc) (C:=Tryz.checked) (os:=os) (X:=fun w _=>laidMetH Tryz.prog Rows.fnExactWaitChainRow.laid w) false (World.laidAll Tryz.prog os Rows.fnExactWaitChainRow.laid) #[.agg #[.slice none 0 0,.int .i64 0,.int .i64 0,.slice none 0 0],.int .i64 0] 8 (World.laidAll_os _ _ _) (DE os) (by kernel_rfl) (by kernel_rfl) (by kernel_rfl) (Nj os _)) ?_
 intro W base args ds gs before hval hW hwt hL hsh;have hW':=hW;obtain ⟨p,q,hA,hV,_,_,_⟩:=hW';obtain ⟨rfl,rfl⟩:gs=[]/\q=[]:=by
  cases gs with
  | nil=>exact ⟨rfl,hV⟩
  | cons _ _=>exact hV.elim
 have hwt2:∀ m∈DataW.weightsEach Tryz.prog Tryz.f7.params.toList ds,m<=aV:=fun m hm=>by
  have e:Rows.fnExactWaitChainSpec.plain.varTypes Tryz.checked.prog=[]:=rfl;rw [e,List.append_nil,List.append_nil] at hwt;have:=List.all_eq_true.1 hwt m hm;have h2:m<=reachBytes:=by simpa using this
  exact Nat.le_trans h2 (by decide)
 obtain ⟨x,hx,hbg⟩:=A0 (E:=E0) (P:=Tryz.prog) hT Tryz.f7.params.toList s7.ps (by kernel_rfl) args.toList ds p 0 hA (fun j t v ht hv=>hval j t v (by rw [<- Array.getElem?_toList]; exact ht) (by rw [<- Array.getElem?_toList]; exact hv)) hwt2;refine (FN (P:=Tryz.prog) (c:=ai Tryz.f7) ok7 Tryz.func7 (by kernel_rfl) (by kernel_rfl) (XY hsh hL) hx ⟨_,xC x.1 x.2.1.1 (Cu x.1 hbg.1) (CG x.1 hbg.1),fun _ _ _ _ hr=>GI hr⟩).mono fun e W' ⟨he,hb⟩=>⟨_,he,?_⟩
 have hlen:ds.length=2:=Az _ _ _ _ hA;obtain ⟨d1,d2,rfl⟩:∃ d1 d2,ds=[d1,d2]:=by
  match ds,hlen with
  | [d1,d2],_=>exact ⟨d1,d2,rfl⟩
 exact I6 (rt:=4) Tryz.laidOut rfl (by kernel_rfl) (by kernel_rfl) (by decide +kernel) hW hb rfl
theorem Lq:Rows.FnExactWaitChainSaid :=
 OpenClaim.holds_of_wide 7 Tryz.f7 rfl rfl rfl rfl rfl rfl rfl ⟨rfl,rfl,rfl,rfl,rfl⟩ rfl rfl rfl rfl rfl (by kernel_rfl) Tryz.func7 QQ
  (of_decide_eq_true (by kernel_rfl)) (by unfold Func.isWrapper; first | (rw [if_pos (by decide +kernel)]; kernel_rfl) | (rw [if_neg (by decide +kernel)]; exact ⟨rfl,rfl⟩))
  (fun os started H enc _=>DD os started H enc)
theorem wch_holds:Rows.FnExactWaitChainCardSaid :=
 Claim7.holds_tied_plain_at .later [] [.data, .data, .data, .data, .sentinel, .sentinel, .pinned] true (true, "e65d4345de9ba8f0a70f1efa7cdc30cd65a8e23288ae680d224a034d030917e2") true
  Lq (fun _ h=>by cases h) Qh (fun _ h=>by cases h) fnExactWaitChain_row_tie rfl ⟨rfl,rfl⟩ Pl rfl
  (fun f fn hf hfn=>by
    obtain rfl : f = 7 := Option.some.inj ((show Tryz.prog.funcNamed "loop.example/g00735/laws.FnExactWaitChain" = some 7 by kernel_rfl).symm.trans hf) |>.symm
    obtain rfl:fn=Tryz.f7:=(Option.some.inj (Tryz.func7.symm.trans hfn)).symm;exact ⟨Q2,fun j t ht=>by
     have hm:t∈[25,3]:=by
      have e:Tryz.f7.params.toList=[25,3]:=by kernel_rfl
      rw [<- e]; exact Array.mem_toList_iff.2 (Array.mem_of_getElem? ht)
     have hall:([25,3].all fun u=> !Tryz.prog.wantsStandIn u)=true:=by kernel_rfl
     exact (show Tryz.prog.wantsStandIn t=false by simpa using List.all_eq_true.1 hall t hm)⟩)
  Qj
end Go.Proofs.YtpgkhfcgbjangaaGreatDoor
#print axioms Go.Proofs.YtpgkhfcgbjangaaGreatDoor.wch_holds
