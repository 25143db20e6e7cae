/- FnExactRunSwept: for every input. -/
import Derived.Test.YtcmhjdkpbgncfaaGreatDoorP4
import Derived.Lay
import Derived.Test.YtcmhjdkpbgncfaaGreatDoorFw4
import Derived.Test.YtcmhjdkpbgncfaaGreatDoorRows
import Derived.Test.YtcmhjdkpbgncfaaGreatDoorCards
import Derived.Test.YtcmhjdkpbgncfaaGreatDoorTie
set_option maxRecDepth 100000
set_option maxHeartbeats 4000000
namespace Go.Av
theorem NR(x:kK)(h:BV [.str,.int .i64,.int .i64] x):BC x:=h.1
theorem NC(x:jD)(h:BV [.str,.str,.sl 5 xN] x):zX x:=⟨h.1,h.2.1,h.2.2.1.1⟩
theorem MJ(x:gr)(h:BV [.str,.int .i64,.int .i64,.int .i64,.int .i64,.sl 192 ny,.int .i64,.int .i64,.sl 3 vo,.sl 3 vo,.sl 100 u0] x):Bw x:=⟨h.1,⟨h.2.2.2.2.2.1.1,fun y hy=>NR y (h.2.2.2.2.2.1.2 y hy)⟩,⟨h.2.2.2.2.2.2.2.2.1.1,h.2.2.2.2.2.2.2.2.2.1.1⟩,⟨h.2.2.2.2.2.2.2.2.2.2.1.1,fun y hy=>NC y (h.2.2.2.2.2.2.2.2.2.2.1.2 y hy)⟩⟩
theorem MP(x:((List jG)×Unit))(h:BV [.sl 109 CB] x):IX x:=⟨h.1.1,fun y hy=>MJ y (h.1.2 y hy)⟩
theorem Od(x:jD)(h:BV [.str,.str,.sl 5 xN] x):PB x:=(fun y hy=>(h.2.2.1.2 y hy).1)
theorem M9(x:gr)(h:BV [.str,.int .i64,.int .i64,.int .i64,.int .i64,.sl 192 ny,.int .i64,.int .i64,.sl 3 vo,.sl 3 vo,.sl 100 u0] x):Po x:=(fun y hy=>Od y (h.2.2.2.2.2.2.2.2.2.2.1.2 y hy))
theorem MU(x:((List jG)×Unit))(h:BV [.sl 109 CB] x):P4 x:=(fun y hy=>M9 y (h.1.2 y hy))
theorem NG(x:vZ)(h:BV [.int .i64,.sl 5 xN,.sl 5 xN] x):Bz x:=⟨h.2.1.1,h.2.2.1.1⟩
theorem Nb(x:vZ)(h:BV [.int .i64,.sl 5 xN,.sl 5 xN] x):IN x:=⟨(fun y hy=>(h.2.1.2 y hy).1),(fun y hy=>(h.2.2.1.2 y hy).1)⟩
end Go.Av
namespace Go.Proofs.YtcmhjdkpbgncfaaGreatDoor
open Go.ChangeShapes Go.WideShapes Go.ChangeAt Go.RowKit Go.Av
theorem Tryz.own:ownKnob Tryz.prog.godebug=none:=by kernel_rfl
theorem Tryz.laidOut:laidOutB Tryz.prog=true:=by kernel_rfl
theorem acU:Tryz.prog.globalNamed "internal/strconv.uint64pow10" = some 5:=by kernel_rfl
theorem KF : "*" ++ "errors.errorString" = "*errors.errorString" :=by decide
theorem RX (u:TypeId) (h:Tryz.prog.typeName? 3 u = some "*errors.errorString"):u = 284:=
 typeName_ptr_named (nm:= "errors.errorString") (by rw [KF];kernel_rfl) (by kernel_rfl) (by decide) u (by rw [KF];exact h)
theorem tZ:Tryz.prog.globalNamed "strconv.ErrSyntax" = some 0:=by kernel_rfl
theorem wJ:Tryz.prog.globalNamed "strconv.ErrRange" = some 1:=by kernel_rfl
theorem aix{W:World}(B1:W.ShapedOpen Tryz.prog)(h:laidMetH Tryz.prog Rows.fnExactRunSweptRow.laid W):Gl Tryz.prog W (iR W):=by
 rw[MakeChecks.laidMetH_plain _ _ _ (by kernel_rfl)]at h
 have e:Rows.fnExactRunSweptRow.laid = [("math/bits.deBruijn32tab", Rows.laid_math_bits_deBruijn32tab), ("math/bits.deBruijn64tab", Rows.laid_math_bits_deBruijn64tab), ("internal/strconv.uint64pow10", Lib.tabData .u64 Lib.pow10Tab), ("unicode/utf8.acceptRanges", Rows.laid_unicode_utf8_acceptRanges), ("strconv.ErrRange", Rows.laid_strconv_ErrRange), ("strconv.ErrSyntax", Rows.laid_strconv_ErrSyntax), ("unicode/utf8.first", Rows.laid_unicode_utf8_first)]:=by kernel_rfl
 rw[e]at h;exact Zi gl0 ⟨.inr ⟨_,acU,XT acU (Lib.tabIs_of_head (t:=303) (e:=269) (n:=20) acU (by kernel_rfl) (by kernel_rfl) (by kernel_rfl) (by kernel_rfl) (by kernel_rfl) h.tail.tail)⟩,.inr ⟨4,by kernel_rfl,WD (t:=3) (zero:= #[.int .i64 0]) B1 (by decide +kernel) (by kernel_rfl) rfl (by kernel_rfl) (by kernel_rfl) (by kernel_rfl)⟩,.inr ⟨_,tZ,TF (X:=fun _=>True) tZ ((laid_sentinel h.tail.tail.tail.tail.tail tZ (by kernel_rfl) Tryz.underlying195 RX Tryz.underlying284 Tryz.underlying286 rfl rfl Tryz.underlying9 (by kernel_rfl) (by kernel_rfl)).imp fun _ h=>⟨h.choose_spec.1,trivial⟩)⟩,.inr ⟨_,wJ,TF (X:=fun _=>True) wJ ((laid_sentinel h.tail.tail.tail.tail wJ (by kernel_rfl) Tryz.underlying195 RX Tryz.underlying284 Tryz.underlying286 rfl rfl Tryz.underlying9 (by kernel_rfl) (by kernel_rfl)).imp fun _ h=>⟨h.choose_spec.1,trivial⟩)⟩,trivial⟩
theorem V3(os:Os)(args:Array Value):laidMetH Tryz.prog Rows.fnExactRunSweptRow.laid ((World.laidAll Tryz.prog os Rows.fnExactRunSweptRow.laid).forCall (fun _ _=>0) ⟨#[],args,[]⟩).memory:=
 by rw[MakeChecks.laidMetH_plain _ _ _ (by kernel_rfl)];exact laidMet_laidAll _ (by kernel_rfl) (by kernel_rfl)
theorem I5(os:Os):(World.laidAll Tryz.prog os Rows.fnExactRunSweptRow.laid).Shaped Tryz.prog:=World.shaped_of_ZipB (by kernel_rfl) (by kernel_rfl)
theorem ach:Tryz.prog.inPlace 6=Rows.fnExactRunSweptRow.inPlace:=by kernel_rfl
theorem acm:Tryz.prog.unfollowed 6=Rows.fnExactRunSweptRow.unfollowed:=by kernel_rfl
theorem acN:Tryz.prog.recurses 6=Rows.fnExactRunSweptRow.recurses:=by kernel_rfl
theorem ac4:Tryz.prog.varsNamed 6=Rows.fnExactRunSweptRow.named:=by kernel_rfl
theorem abc:joinedFacts Tryz.prog 6 Tryz.f6 Rows.fnExactRunSweptSpec Rows.fnExactRunSweptRow=true:=by unfold joinedFacts;rw[ach,acm,acN,ac4];kernel_rfl
theorem adp:Rows.fnExactRunSweptRow.wfByText (OpenSpec.ofChange Rows.fnExactRunSweptSpec)=true:=by kernel_rfl
theorem acy:Tryz.prog.mainIs = some ((true, "7b1d776fb8907b4decce6c9b2332eb9e57bf308c43c2a3f1d995033f38db9224").1, (true, "7b1d776fb8907b4decce6c9b2332eb9e57bf308c43c2a3f1d995033f38db9224").2.toList):=by kernel_rfl
theorem abm:true=Tryz.prog.looks []:=by kernel_rfl
theorem adE:false=Rows.fnExactRunSweptRow.goesBy Tryz.prog:=by kernel_rfl
theorem JU(os:Os)(started:os.Started)(H:Type)(enc:TypeId×Value->H) :
 ReturnsInHanded {} Tryz.checked os 6 .any (fun w args=>(Rows.fnExactRunSweptSpec.pre enc Tryz.prog Tryz.f6 Rows.fnExactRunSweptRow.domain false w args/\laidMetH Tryz.prog Rows.fnExactRunSweptRow.laid w)/\sizedMet enc Tryz.prog Tryz.f6 (OpenSpec.ofChange Rows.fnExactRunSweptSpec) false w args) (Rows.fnExactRunSweptSpec.post enc Tryz.prog Tryz.f6 false true false false):=by
 refine FG (C:=Tryz.checked) (X:=fun w _=>laidMetH Tryz.prog Rows.fnExactRunSweptRow.laid w) (fun _ _ _ hh h=>h.of_heap hh) Tryz.own started (by kernel_rfl) Tryz.func6
  (ChangeSpec.witness_shaped (enc:=enc) (C:=Tryz.checked) (os:=os) (X:=fun w _=>laidMetH Tryz.prog Rows.fnExactRunSweptRow.laid w) false (World.laidAll Tryz.prog os Rows.fnExactRunSweptRow.laid) #[.agg #[.slice none 0 0],.slice none 0 0,.slice none 0 0] 8 (World.laidAll_os _ _ _) (I5 os) (by kernel_rfl) (by kernel_rfl) (by kernel_rfl) (V3 os _)) ?_
 intro W base args ds gs before OO hW hwt hL B1;have hW':=hW;obtain⟨p,q,hA,hV,_,_,_⟩:=hW';obtain⟨rfl,rfl⟩:gs=[]/\q=[]:=by
  cases gs with
  | nil=>exact⟨rfl,hV⟩
  | cons _ _=>exact hV.elim
 have al7:∀ m∈DataW.weightsEach Tryz.prog Tryz.f6.params.toList ds,m<=bQ:=fun m hm=>by
  have e:Rows.fnExactRunSweptSpec.plain.varTypes Tryz.checked.prog=[]:=rfl;rw[e,amZ,amZ]at hwt;have:=amB.1 hwt m hm;have h2:m<=reachBytes:=by simpa using this
  exact amp h2 (by decide)
 obtain⟨x,hx,hbg⟩:=HJ (E:=E0) (P:=Tryz.prog) hT Tryz.f6.params.toList s6.ps (by kernel_rfl) args.toList ds p 0 hA (fun j t v ht hv=>OO j t v (by rw[<- aml];exact ht) (by rw[<- aml];exact hv)) al7;refine(Ns (P:=Tryz.prog) (c:=aw Tryz.f6) ok6 Tryz.func6 (by kernel_rfl) (by kernel_rfl) (aix B1 hL) hx ⟨_,EA x.1 x.2.1.1 x.2.2.1.1 (MP x.1 hbg.1) ⟨hbg.2.1.1.1,fun y hy=>NG y (hbg.2.1.1.2 y hy)⟩ hbg.2.2.1.1.1 (MU x.1 hbg.1) (fun y hy=>Nb y (hbg.2.1.1.2 y hy)),fun _ _ _ _ hr=>OI hr⟩).mono fun e W' ⟨he,hb⟩=>⟨_,he,?_⟩
 have hlen:ds.length=3:=HH _ _ _ _ hA;obtain⟨d1,d2,d3,rfl⟩:∃ d1 d2 d3,ds=[d1,d2,d3]:=by
  match ds,hlen with
  | [d1,d2,d3],_=>exact⟨d1,d2,d3,rfl⟩
 exact Q9 (rt:=4) Tryz.laidOut rfl (by kernel_rfl) (by kernel_rfl) (by decide +kernel) hW hb rfl
theorem Wa:Rows.FnExactRunSweptSaid:=
 OpenClaim.holds_of_wide 6 Tryz.f6 rfl rfl rfl rfl rfl rfl rfl ⟨rfl,rfl,rfl,rfl,rfl⟩ rfl rfl rfl rfl rfl (by kernel_rfl) Tryz.func6 abc
  (anf (by kernel_rfl)) (by unfold Func.isWrapper;first | (rw[if_pos (by decide +kernel)];kernel_rfl) | (rw[if_neg (by decide +kernel)];exact⟨rfl,rfl⟩))
  (fun os started H enc _=>JU os started H enc)
theorem rsw_holds:Rows.FnExactRunSweptCardSaid:=
 Claim7.holds_tied_plain_at .later [] [.data, .data, .data, .data, .sentinel, .sentinel, .pinned] true (true, "7b1d776fb8907b4decce6c9b2332eb9e57bf308c43c2a3f1d995033f38db9224") true
  Wa (fun _ h=>by cases h) adp (fun _ h=>by cases h) fnExactRunSwept_row_tie rfl ⟨rfl,rfl⟩ acy rfl
  (fun f fn hf hfn=>by
    obtain rfl:f = 6:=am5 ((show Tryz.prog.funcNamed "loop.example/g00735/laws.FnExactRunSwept" = some 6 by kernel_rfl).symm.trans hf) |>.symm
    obtain rfl:fn=Tryz.f6:=(am5 (Tryz.func6.symm.trans hfn)).symm;exact⟨abm,fun j t ht=>by
     have hm:t∈[24,25,52]:=by
      have e:Tryz.f6.params.toList=[24,25,52]:=by kernel_rfl
      rw[<- e];exact aou.2 (Array.mem_of_getElem? ht)
     have gm:([24,25,52].all fun u=> !Tryz.prog.wantsStandIn u)=true:=by kernel_rfl
     exact(show Tryz.prog.wantsStandIn t=false by simpa using List.all_eq_true.1 gm t hm)⟩)
  adE
end Go.Proofs.YtcmhjdkpbgncfaaGreatDoor
#print axioms Go.Proofs.YtcmhjdkpbgncfaaGreatDoor.rsw_holds
