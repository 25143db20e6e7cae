/- FnExactRun: for every input. -/
import Derived.Test.YtcmhjdkpbgncfaaGreatDoorP4
import Derived.Lay
import Derived.Test.YtcmhjdkpbgncfaaGreatDoorFw4
import Derived.Test.YtcmhjdkpbgncfaaGreatDoorRows
import Derived.Test.YtcmhjdkpbgncfaaGreatDoorCards
import Derived.Test.YtcmhjdkpbgncfaaGreatDoorTie
set_option maxRecDepth 100000
set_option maxHeartbeats 4000000
namespace Go.Av
theorem MW(x:kF)(h:BQ [.str,.int .i64,.int .i64] x):zf x:=h.1
theorem NO(x:jy)(h:BQ [.str,.str,.sl 5 xA] x):Bv x:=⟨h.1,h.2.1,h.2.2.1.1⟩
theorem Nh(x:gH)(h:BQ [.str,.int .i64,.int .i64,.int .i64,.int .i64,.sl 192 nj,.int .i64,.int .i64,.sl 3 u0,.sl 3 u0,.sl 100 vJ] x):yU x:=⟨h.1,⟨h.2.2.2.2.2.1.1,fun y hy=>MW y (h.2.2.2.2.2.1.2 y hy)⟩,⟨h.2.2.2.2.2.2.2.2.1.1,h.2.2.2.2.2.2.2.2.2.1.1⟩,⟨h.2.2.2.2.2.2.2.2.2.2.1.1,fun y hy=>NO y (h.2.2.2.2.2.2.2.2.2.2.1.2 y hy)⟩⟩
theorem Ob(x:((List jM)×Unit))(h:BQ [.sl 109 CV] x):J0 x:=⟨h.1.1,fun y hy=>Nh y (h.1.2 y hy)⟩
theorem Nc(x:jy)(h:BQ [.str,.str,.sl 5 xA] x):PQ x:=(fun y hy=>(h.2.2.1.2 y hy).1)
theorem OA(x:gH)(h:BQ [.str,.int .i64,.int .i64,.int .i64,.int .i64,.sl 192 nj,.int .i64,.int .i64,.sl 3 u0,.sl 3 u0,.sl 100 vJ] x):R7 x:=(fun y hy=>Nc y (h.2.2.2.2.2.2.2.2.2.2.1.2 y hy))
theorem Nx(x:((List jM)×Unit))(h:BQ [.sl 109 CV] x):P1 x:=(fun y hy=>OA y (h.1.2 y hy))
theorem OG(x:vW)(h:BQ [.int .i64,.sl 5 xA,.sl 5 xA] x):AH x:=⟨h.2.1.1,h.2.2.1.1⟩
theorem M1(x:vW)(h:BQ [.int .i64,.sl 5 xA,.sl 5 xA] x):Iu x:=⟨(fun y hy=>(h.2.1.2 y hy).1),(fun y hy=>(h.2.2.1.2 y hy).1)⟩
end Go.Av
namespace Go.Proofs.YtcmhjdkpbgncfaaGreatDoor
open Go.ChangeShapes Go.WideShapes Go.ChangeAt Go.RowKit Go.Av
theorem Tryz.own:ownKnob Tryz.prog.godebug=none:=by kernel_rfl
theorem Tryz.laidOut:laidOutB Tryz.prog=true:=by kernel_rfl
theorem abK : Tryz.prog.globalNamed "internal/strconv.uint64pow10" = some 5 := by kernel_rfl
theorem Li : "*" ++ "errors.errorString" = "*errors.errorString" := by decide
theorem Rj (u : TypeId) (h : Tryz.prog.typeName? 3 u = some "*errors.errorString") : u = 284 :=
 typeName_ptr_named (nm := "errors.errorString") (by rw [Li]; kernel_rfl) (by kernel_rfl) (by decide) u (by rw [Li]; exact h)
theorem tg : Tryz.prog.globalNamed "strconv.ErrSyntax" = some 0 := by kernel_rfl
theorem xh : Tryz.prog.globalNamed "strconv.ErrRange" = some 1 := by kernel_rfl
theorem akU{W:World}(BX:W.ShapedOpen Tryz.prog)(h:laidMetH Tryz.prog Rows.fnExactRunRow.laid W):Gl Tryz.prog W (iR W):=by
 rw[MakeChecks.laidMetH_plain _ _ _ (by kernel_rfl)]at h
 have e : Rows.fnExactRunRow.laid = [("math/bits.deBruijn32tab", Rows.laid_math_bits_deBruijn32tab), ("math/bits.deBruijn64tab", Rows.laid_math_bits_deBruijn64tab), ("internal/strconv.uint64pow10", Lib.tabData .u64 Lib.pow10Tab), ("unicode/utf8.acceptRanges", Rows.laid_unicode_utf8_acceptRanges), ("strconv.ErrRange", Rows.laid_strconv_ErrRange), ("strconv.ErrSyntax", Rows.laid_strconv_ErrSyntax), ("unicode/utf8.first", Rows.laid_unicode_utf8_first)] := by kernel_rfl
 rw[e]at h;exact YL gl0 ⟨.inr ⟨_,abK,XM abK (Lib.tabIs_of_head (t:=303) (e:=269) (n:=20) abK (by kernel_rfl) (by kernel_rfl) (by kernel_rfl) (by kernel_rfl) (by kernel_rfl) h.tail.tail)⟩,.inr ⟨4,by kernel_rfl,XY (t:=3) (zero := #[.int .i64 0]) BX (by decide +kernel) (by kernel_rfl) rfl (by kernel_rfl) (by kernel_rfl) (by kernel_rfl)⟩,.inr ⟨_,tg,TP (X:=fun _=>True) tg ((laid_sentinel h.tail.tail.tail.tail.tail tg (by kernel_rfl) Tryz.underlying195 Rj Tryz.underlying284 Tryz.underlying286 rfl rfl Tryz.underlying9 (by kernel_rfl) (by kernel_rfl)).imp fun _ h=>⟨h.choose_spec.1,trivial⟩)⟩,.inr ⟨_,xh,TP (X:=fun _=>True) xh ((laid_sentinel h.tail.tail.tail.tail xh (by kernel_rfl) Tryz.underlying195 Rj Tryz.underlying284 Tryz.underlying286 rfl rfl Tryz.underlying9 (by kernel_rfl) (by kernel_rfl)).imp fun _ h=>⟨h.choose_spec.1,trivial⟩)⟩,trivial⟩
theorem X7(os:Os)(args:Array Value):laidMetH Tryz.prog Rows.fnExactRunRow.laid ((World.laidAll Tryz.prog os Rows.fnExactRunRow.laid).forCall (fun _ _=>0) ⟨#[],args,[]⟩).memory :=
 by rw[MakeChecks.laidMetH_plain _ _ _ (by kernel_rfl)]; exact laidMet_laidAll _ (by kernel_rfl) (by kernel_rfl)
theorem Jn(os:Os):(World.laidAll Tryz.prog os Rows.fnExactRunRow.laid).Shaped Tryz.prog:=World.shaped_of_ZipB (by kernel_rfl) (by kernel_rfl)
theorem acP:Tryz.prog.inPlace 5=Rows.fnExactRunRow.inPlace:=by kernel_rfl
theorem ada:Tryz.prog.unfollowed 5=Rows.fnExactRunRow.unfollowed:=by kernel_rfl
theorem acn:Tryz.prog.recurses 5=Rows.fnExactRunRow.recurses:=by kernel_rfl
theorem abb:Tryz.prog.varsNamed 5=Rows.fnExactRunRow.named:=by kernel_rfl
theorem abc:joinedFacts Tryz.prog 5 Tryz.f5 Rows.fnExactRunSpec Rows.fnExactRunRow=true:=by unfold joinedFacts;rw[acP,ada,acn,abb];kernel_rfl
theorem adE:Rows.fnExactRunRow.wfByText (OpenSpec.ofChange Rows.fnExactRunSpec)=true:=by kernel_rfl
theorem acG : Tryz.prog.mainIs = some ((true, "7b1d776fb8907b4decce6c9b2332eb9e57bf308c43c2a3f1d995033f38db9224").1, (true, "7b1d776fb8907b4decce6c9b2332eb9e57bf308c43c2a3f1d995033f38db9224").2.toList) := by kernel_rfl
theorem acY:true=Tryz.prog.looks []:=by kernel_rfl
theorem aa7:false=Rows.fnExactRunRow.goesBy Tryz.prog:=by kernel_rfl
theorem Jm(os:Os)(started:os.Started)(H:Type)(enc:TypeId×Value->H) :
 ReturnsInHanded {} Tryz.checked os 5 .any (fun w args=>(Rows.fnExactRunSpec.pre enc Tryz.prog Tryz.f5 Rows.fnExactRunRow.domain false w args/\laidMetH Tryz.prog Rows.fnExactRunRow.laid w)/\sizedMet enc Tryz.prog Tryz.f5 (OpenSpec.ofChange Rows.fnExactRunSpec) false w args) (Rows.fnExactRunSpec.post enc Tryz.prog Tryz.f5 false true false false):=by
 refine GB (C:=Tryz.checked) (X:=fun w _=>laidMetH Tryz.prog Rows.fnExactRunRow.laid w) (fun _ _ _ hh h=>h.of_heap hh) Tryz.own started (by kernel_rfl) Tryz.func5
  (ChangeSpec.witness_shaped (enc:=enc) (C:=Tryz.checked) (os:=os) (X:=fun w _=>laidMetH Tryz.prog Rows.fnExactRunRow.laid w) false (World.laidAll Tryz.prog os Rows.fnExactRunRow.laid) #[.agg #[.slice none 0 0],.slice none 0 0] 8 (World.laidAll_os _ _ _) (Jn os) (by kernel_rfl) (by kernel_rfl) (by kernel_rfl) (X7 os _)) ?_
 intro W base args ds gs before OM hW hwt hL BX;have hW':=hW;obtain⟨p,q,hA,hV,_,_,_⟩:=hW';obtain⟨rfl,rfl⟩:gs=[]/\q=[]:=by
  cases gs with
  | nil=>exact⟨rfl,hV⟩
  | cons _ _=>exact hV.elim
 have al3:∀ m∈DataW.weightsEach Tryz.prog Tryz.f5.params.toList ds,m<=bQ:=fun m hm=>by
  have e:Rows.fnExactRunSpec.plain.varTypes Tryz.checked.prog=[]:=rfl;rw[e,amV,amV]at hwt;have:=amx.1 hwt m hm;have h2:m<=reachBytes:=by simpa using this
  exact aml h2 (by decide)
 obtain⟨x,hx,hbg⟩:=GC (E:=E0) (P:=Tryz.prog) hT Tryz.f5.params.toList s5.ps (by kernel_rfl) args.toList ds p 0 hA (fun j t v ht hv=>OM j t v (by rw[<- amh]; exact ht) (by rw[<- amh]; exact hv)) al3;refine(NW (P:=Tryz.prog) (c:=aw Tryz.f5) ok5 Tryz.func5 (by kernel_rfl) (by kernel_rfl) (akU BX hL) hx ⟨_,VL x.1 x.2.1.1 (Ob x.1 hbg.1) ⟨hbg.2.1.1.1,fun y hy=>OG y (hbg.2.1.1.2 y hy)⟩ (Nx x.1 hbg.1) (fun y hy=>M1 y (hbg.2.1.1.2 y hy)),fun _ _ _ _ hr=>N5 hr⟩).mono fun e W' ⟨he,hb⟩=>⟨_,he,?_⟩
 have hlen:ds.length=2:=G9 _ _ _ _ hA;obtain⟨d1,d2,rfl⟩:∃ d1 d2,ds=[d1,d2]:=by
  match ds,hlen with
  | [d1,d2],_=>exact⟨d1,d2,rfl⟩
 exact T7 (rt:=4) Tryz.laidOut rfl (by kernel_rfl) (by kernel_rfl) (by decide +kernel) hW hb rfl
theorem XH:Rows.FnExactRunSaid :=
 OpenClaim.holds_of_wide 5 Tryz.f5 rfl rfl rfl rfl rfl rfl rfl ⟨rfl,rfl,rfl,rfl,rfl⟩ rfl rfl rfl rfl rfl (by kernel_rfl) Tryz.func5 abc
  (ana (by kernel_rfl)) (by unfold Func.isWrapper; first | (rw[if_pos (by decide +kernel)]; kernel_rfl) | (rw[if_neg (by decide +kernel)]; exact⟨rfl,rfl⟩))
  (fun os started H enc _=>Jm os started H enc)
theorem run_holds:Rows.FnExactRunCardSaid :=
 Claim7.holds_tied_plain_at .later [] [.data, .data, .data, .data, .sentinel, .sentinel, .pinned] true (true, "7b1d776fb8907b4decce6c9b2332eb9e57bf308c43c2a3f1d995033f38db9224") true
  XH (fun _ h=>by cases h) adE (fun _ h=>by cases h) fnExactRun_row_tie rfl ⟨rfl,rfl⟩ acG rfl
  (fun f fn hf hfn=>by
    obtain rfl : f = 5 := am1 ((show Tryz.prog.funcNamed "loop.example/g00735/laws.FnExactRun" = some 5 by kernel_rfl).symm.trans hf) |>.symm
    obtain rfl:fn=Tryz.f5:=(am1 (Tryz.func5.symm.trans hfn)).symm;exact⟨acY,fun j t ht=>by
     have hm:t∈[24,25]:=by
      have e:Tryz.f5.params.toList=[24,25]:=by kernel_rfl
      rw[<- e]; exact aoq.2 (Array.mem_of_getElem? ht)
     have gm:([24,25].all fun u=> !Tryz.prog.wantsStandIn u)=true:=by kernel_rfl
     exact(show Tryz.prog.wantsStandIn t=false by simpa using List.all_eq_true.1 gm t hm)⟩)
  aa7
end Go.Proofs.YtcmhjdkpbgncfaaGreatDoor
#print axioms Go.Proofs.YtcmhjdkpbgncfaaGreatDoor.run_holds
