/- FnExactHandle: for every input. -/
import Derived.Test.YtcmhjdkpbgncfaaGreatDoorP4
import Derived.Lay
import Derived.Test.YtcmhjdkpbgncfaaGreatDoorFw4
import Derived.Test.YtcmhjdkpbgncfaaGreatDoorRows
import Derived.Test.YtcmhjdkpbgncfaaGreatDoorCards
import Derived.Test.YtcmhjdkpbgncfaaGreatDoorTie
set_option maxRecDepth 100000
set_option maxHeartbeats 4000000
namespace Go.Av
theorem IZ(x:jA)(h:zr [.str,.int .i64,.int .i64] x):wO x:=h.1
theorem IS(x:iF)(h:zr [.str,.str,.sl 5 yM] x):xo x:=⟨h.1,h.2.1,h.2.2.1.1⟩
theorem I6(x:gL)(h:zr [.str,.int .i64,.int .i64,.int .i64,.int .i64,.sl 192 lO,.int .i64,.int .i64,.sl 3 sr,.sl 3 sr,.sl 100 r9] x):xD x:=⟨h.1,⟨h.2.2.2.2.2.1.1,fun y hy=>IZ y (h.2.2.2.2.2.1.2 y hy)⟩,⟨h.2.2.2.2.2.2.2.2.1.1,h.2.2.2.2.2.2.2.2.2.1.1⟩,⟨h.2.2.2.2.2.2.2.2.2.2.1.1,fun y hy=>IS y (h.2.2.2.2.2.2.2.2.2.2.1.2 y hy)⟩⟩
theorem It(x:((List ir)×Unit))(h:zr [.sl 109 zi] x):Eu x:=⟨h.1.1,fun y hy=>I6 y (h.1.2 y hy)⟩
theorem H4(x:iF)(h:zr [.str,.str,.sl 5 yM] x):K1 x:=(fun y hy=>(h.2.2.1.2 y hy).1)
theorem J1(x:gL)(h:zr [.str,.int .i64,.int .i64,.int .i64,.int .i64,.sl 192 lO,.int .i64,.int .i64,.sl 3 sr,.sl 3 sr,.sl 100 r9] x):Kq x:=(fun y hy=>H4 y (h.2.2.2.2.2.2.2.2.2.2.1.2 y hy))
theorem HY(x:((List ir)×Unit))(h:zr [.sl 109 zi] x):Mr x:=(fun y hy=>J1 y (h.1.2 y hy))
end Go.Av
namespace Go.Proofs.YtcmhjdkpbgncfaaGreatDoor
open Go.ChangeShapes Go.WideShapes Go.ChangeAt Go.RowKit Go.Av
theorem Tryz.own:ownKnob Tryz.prog.godebug=none:=by kernel_rfl
theorem Tryz.laidOut:laidOutB Tryz.prog=true:=by kernel_rfl
theorem Wb : Tryz.prog.globalNamed "internal/strconv.uint64pow10" = some 5 := by kernel_rfl
theorem HQ : "*" ++ "errors.errorString" = "*errors.errorString" := by decide
theorem LJ (u : TypeId) (h : Tryz.prog.typeName? 3 u = some "*errors.errorString") : u = 284 :=
 typeName_ptr_named (nm := "errors.errorString") (by rw [HQ]; kernel_rfl) (by kernel_rfl) (by decide) u (by rw [HQ]; exact h)
theorem qK : Tryz.prog.globalNamed "strconv.ErrSyntax" = some 0 := by kernel_rfl
theorem tQ : Tryz.prog.globalNamed "strconv.ErrRange" = some 1 := by kernel_rfl
theorem abp{W:World}(hsh:W.ShapedOpen Tryz.prog)(h:laidMetH Tryz.prog Rows.fnExactHandleRow.laid W):Gl Tryz.prog W (gO W):=by
 rw[MakeChecks.laidMetH_plain _ _ _ (by kernel_rfl)]at h
 have e : Rows.fnExactHandleRow.laid = [("math/bits.deBruijn32tab", Rows.laid_math_bits_deBruijn32tab), ("math/bits.deBruijn64tab", Rows.laid_math_bits_deBruijn64tab), ("internal/strconv.uint64pow10", Lib.tabData .u64 Lib.pow10Tab), ("unicode/utf8.acceptRanges", Rows.laid_unicode_utf8_acceptRanges), ("strconv.ErrRange", Rows.laid_strconv_ErrRange), ("strconv.ErrSyntax", Rows.laid_strconv_ErrSyntax), ("unicode/utf8.first", Rows.laid_unicode_utf8_first)] := by kernel_rfl
 rw[e]at h;exact Sg gl0 ⟨.inr ⟨_,Wb,Ro Wb (Lib.tabIs_of_head (t:=303) (e:=269) (n:=20) Wb (by kernel_rfl) (by kernel_rfl) (by kernel_rfl) (by kernel_rfl) (by kernel_rfl) h.tail.tail)⟩,.inr ⟨4,by kernel_rfl,QY (t:=3) (zero := #[.int .i64 0]) hsh (by decide +kernel) (by kernel_rfl) rfl (by kernel_rfl) (by kernel_rfl) (by kernel_rfl)⟩,.inr ⟨_,qK,Oa (X:=fun _=>True) qK ((laid_sentinel h.tail.tail.tail.tail.tail qK (by kernel_rfl) Tryz.underlying195 LJ Tryz.underlying284 Tryz.underlying286 rfl rfl Tryz.underlying9 (by kernel_rfl) (by kernel_rfl)).imp fun _ h=>⟨h.choose_spec.1,trivial⟩)⟩,.inr ⟨_,tQ,Oa (X:=fun _=>True) tQ ((laid_sentinel h.tail.tail.tail.tail tQ (by kernel_rfl) Tryz.underlying195 LJ Tryz.underlying284 Tryz.underlying286 rfl rfl Tryz.underlying9 (by kernel_rfl) (by kernel_rfl)).imp fun _ h=>⟨h.choose_spec.1,trivial⟩)⟩,trivial⟩
theorem Rw(os:Os)(args:Array Value):laidMetH Tryz.prog Rows.fnExactHandleRow.laid ((World.laidAll Tryz.prog os Rows.fnExactHandleRow.laid).forCall (fun _ _=>0) ⟨#[],args,[]⟩).memory :=
 by rw[MakeChecks.laidMetH_plain _ _ _ (by kernel_rfl)]; exact laidMet_laidAll _ (by kernel_rfl) (by kernel_rfl)
theorem FX(os:Os):(World.laidAll Tryz.prog os Rows.fnExactHandleRow.laid).Shaped Tryz.prog:=World.shaped_of_ZipB (by kernel_rfl) (by kernel_rfl)
theorem VM:Tryz.prog.inPlace 4=Rows.fnExactHandleRow.inPlace:=by kernel_rfl
theorem V6:Tryz.prog.unfollowed 4=Rows.fnExactHandleRow.unfollowed:=by kernel_rfl
theorem VC:Tryz.prog.recurses 4=Rows.fnExactHandleRow.recurses:=by kernel_rfl
theorem UY:Tryz.prog.varsNamed 4=Rows.fnExactHandleRow.named:=by kernel_rfl
theorem UN:joinedFacts Tryz.prog 4 Tryz.f4 Rows.fnExactHandleSpec Rows.fnExactHandleRow=true:=by unfold joinedFacts;rw[VM,V6,VC,UY];kernel_rfl
theorem Vq:Rows.fnExactHandleRow.wfByText (OpenSpec.ofChange Rows.fnExactHandleSpec)=true:=by kernel_rfl
theorem Vm : Tryz.prog.mainIs = some ((true, "7b1d776fb8907b4decce6c9b2332eb9e57bf308c43c2a3f1d995033f38db9224").1, (true, "7b1d776fb8907b4decce6c9b2332eb9e57bf308c43c2a3f1d995033f38db9224").2.toList) := by kernel_rfl
theorem Vp:true=Tryz.prog.looks []:=by kernel_rfl
theorem Um:false=Rows.fnExactHandleRow.goesBy Tryz.prog:=by kernel_rfl
theorem EC(os:Os)(started:os.Started)(H:Type)(enc:TypeId×Value->H) :
 ReturnsInHanded {} Tryz.checked os 4 .any (fun w args=>(Rows.fnExactHandleSpec.pre enc Tryz.prog Tryz.f4 Rows.fnExactHandleRow.domain false w args/\laidMetH Tryz.prog Rows.fnExactHandleRow.laid w)/\sizedMet enc Tryz.prog Tryz.f4 (OpenSpec.ofChange Rows.fnExactHandleSpec) false w args) (Rows.fnExactHandleSpec.post enc Tryz.prog Tryz.f4 false true false false):=by
 refine CG (C:=Tryz.checked) (X:=fun w _=>laidMetH Tryz.prog Rows.fnExactHandleRow.laid w) (fun _ _ _ hh h=>h.of_heap hh) Tryz.own started (by kernel_rfl) Tryz.func4
  (ChangeSpec.witness_shaped (enc:=enc) (C:=Tryz.checked) (os:=os) (X:=fun w _=>laidMetH Tryz.prog Rows.fnExactHandleRow.laid w) false (World.laidAll Tryz.prog os Rows.fnExactHandleRow.laid) #[.agg #[.slice none 0 0],.slice none 0 0,.int .i64 0] 8 (World.laidAll_os _ _ _) (FX os) (by kernel_rfl) (by kernel_rfl) (by kernel_rfl) (Rw os _)) ?_
 intro W base args ds gs before hval hW hwt hL hsh;have hW':=hW;obtain⟨p,q,hA,hV,_,_,_⟩:=hW';obtain⟨rfl,rfl⟩:gs=[]/\q=[]:=by
  cases gs with
  | nil=>exact⟨rfl,hV⟩
  | cons _ _=>exact hV.elim
 have hwt2:∀ m∈DataW.weightsEach Tryz.prog Tryz.f4.params.toList ds,m<=bN:=fun m hm=>by
  have e:Rows.fnExactHandleSpec.plain.varTypes Tryz.checked.prog=[]:=rfl;rw[e,afd,afd]at hwt;have:=aeE.1 hwt m hm;have h2:m<=reachBytes:=by simpa using this
  exact aeu h2 (by decide)
 obtain⟨x,hx,hbg⟩:=CS (E:=E0) (P:=Tryz.prog) hT Tryz.f4.params.toList s4.ps (by kernel_rfl) args.toList ds p 0 hA (fun j t v ht hv=>hval j t v (by rw[<- aep]; exact ht) (by rw[<- aep]; exact hv)) hwt2;refine(Jp (P:=Tryz.prog) (c:=ar Tryz.f4) ok4 Tryz.func4 (by kernel_rfl) (by kernel_rfl) (abp hsh hL) hx ⟨_,E8 x.1 x.2.1.1 x.2.2.1.1 (It x.1 hbg.1) hbg.2.1.1.1 (HY x.1 hbg.1) (fun y hy=>(hbg.2.1.1.2 y hy).1),fun _ _ _ _ hr=>IC hr⟩).mono fun e W' ⟨he,hb⟩=>⟨_,he,?_⟩
 have hlen:ds.length=3:=DY _ _ _ _ hA;obtain⟨d1,d2,d3,rfl⟩:∃ d1 d2 d3,ds=[d1,d2,d3]:=by
  match ds,hlen with
  | [d1,d2,d3],_=>exact⟨d1,d2,d3,rfl⟩
 exact Mk (rt:=4) Tryz.laidOut rfl (by kernel_rfl) (by kernel_rfl) (by decide +kernel) hW hb rfl
theorem Q6:Rows.FnExactHandleSaid :=
 OpenClaim.holds_of_wide 4 Tryz.f4 rfl rfl rfl rfl rfl rfl rfl ⟨rfl,rfl,rfl,rfl,rfl⟩ rfl rfl rfl rfl rfl (by kernel_rfl) Tryz.func4 UN
  (afI (by kernel_rfl)) (by unfold Func.isWrapper; first | (rw[if_pos (by decide +kernel)]; kernel_rfl) | (rw[if_neg (by decide +kernel)]; exact⟨rfl,rfl⟩))
  (fun os started H enc _=>EC os started H enc)
theorem han_holds:Rows.FnExactHandleCardSaid :=
 Claim7.holds_tied_plain_at .later [] [.data, .data, .data, .data, .sentinel, .sentinel, .pinned] true (true, "7b1d776fb8907b4decce6c9b2332eb9e57bf308c43c2a3f1d995033f38db9224") true
  Q6 (fun _ h=>by cases h) Vq (fun _ h=>by cases h) fnExactHandle_row_tie rfl ⟨rfl,rfl⟩ Vm rfl
  (fun f fn hf hfn=>by
    obtain rfl : f = 4 := ae9 ((show Tryz.prog.funcNamed "loop.example/g00735/laws.FnExactHandle" = some 4 by kernel_rfl).symm.trans hf) |>.symm
    obtain rfl:fn=Tryz.f4:=(ae9 (Tryz.func4.symm.trans hfn)).symm;exact⟨Vp,fun j t ht=>by
     have hm:t∈[24,38,3]:=by
      have e:Tryz.f4.params.toList=[24,38,3]:=by kernel_rfl
      rw[<- e]; exact agv.2 (Array.mem_of_getElem? ht)
     have hall:([24,38,3].all fun u=> !Tryz.prog.wantsStandIn u)=true:=by kernel_rfl
     exact(show Tryz.prog.wantsStandIn t=false by simpa using List.all_eq_true.1 hall t hm)⟩)
  Um
end Go.Proofs.YtcmhjdkpbgncfaaGreatDoor
#print axioms Go.Proofs.YtcmhjdkpbgncfaaGreatDoor.han_holds
