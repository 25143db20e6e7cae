/- FnExactAgree: for every input. -/
import Derived.Test.YtcmhjdkpbgncfaaGreatDoorP4
import Derived.Lay
import Derived.Test.YtcmhjdkpbgncfaaGreatDoorFw4
import Derived.Test.YtcmhjdkpbgncfaaGreatDoorRows
import Derived.Test.YtcmhjdkpbgncfaaGreatDoorCards
import Derived.Test.YtcmhjdkpbgncfaaGreatDoorTie
set_option maxRecDepth 100000
set_option maxHeartbeats 4000000
namespace Go.Av
theorem I9(x:lf)(h:yJ [.str,.int .i64,.int .i64] x):xj x:=h.1
theorem H7(x:js)(h:yJ [.str,.str,.sl 5 vf] x):xQ x:=⟨h.1,h.2.1,h.2.2.1.1⟩
theorem Iq(x:iI)(h:yJ [.str,.int .i64,.int .i64,.int .i64,.int .i64,.sl 192 lI,.int .i64,.int .i64,.sl 3 rO,.sl 3 rO,.sl 100 so] x):xl x:=⟨h.1,⟨h.2.2.2.2.2.1.1,fun y hy=>I9 y (h.2.2.2.2.2.1.2 y hy)⟩,⟨h.2.2.2.2.2.2.2.2.1.1,h.2.2.2.2.2.2.2.2.2.1.1⟩,⟨h.2.2.2.2.2.2.2.2.2.2.1.1,fun y hy=>H7 y (h.2.2.2.2.2.2.2.2.2.2.1.2 y hy)⟩⟩
theorem JN(x:((List jW)×Unit))(h:yJ [.sl 109 zo] x):Ey x:=⟨h.1.1,fun y hy=>Iq y (h.1.2 y hy)⟩
theorem IN(x:js)(h:yJ [.str,.str,.sl 5 vf] x):Oo x:=(fun y hy=>(h.2.2.1.2 y hy).1)
theorem II(x:iI)(h:yJ [.str,.int .i64,.int .i64,.int .i64,.int .i64,.sl 192 lI,.int .i64,.int .i64,.sl 3 rO,.sl 3 rO,.sl 100 so] x):L4 x:=(fun y hy=>IN y (h.2.2.2.2.2.2.2.2.2.2.1.2 y hy))
theorem HY(x:((List jW)×Unit))(h:yJ [.sl 109 zo] x):N3 x:=(fun y hy=>II y (h.1.2 y hy))
theorem I1(x:vL)(h:yJ [.int .i64,.sl 5 vf,.sl 5 vf] x):xa x:=⟨h.2.1.1,h.2.2.1.1⟩
theorem I3(x:vL)(h:yJ [.int .i64,.sl 5 vf,.sl 5 vf] x):Fk x:=⟨(fun y hy=>(h.2.1.2 y hy).1),(fun y hy=>(h.2.2.1.2 y hy).1)⟩
end Go.Av
namespace Go.Proofs.YtcmhjdkpbgncfaaGreatDoor
open Go.ChangeShapes Go.WideShapes Go.ChangeAt Go.RowKit Go.Av
theorem Tryz.own:ownKnob Tryz.prog.godebug=none:=by kernel_rfl
theorem Tryz.laidOut:laidOutB Tryz.prog=true:=by kernel_rfl
theorem VZ : Tryz.prog.globalNamed "internal/strconv.uint64pow10" = some 5 := by kernel_rfl
theorem GC : "*" ++ "errors.errorString" = "*errors.errorString" := by decide
theorem NL (u : TypeId) (h : Tryz.prog.typeName? 3 u = some "*errors.errorString") : u = 284 :=
 typeName_ptr_named (nm := "errors.errorString") (by rw [GC]; kernel_rfl) (by kernel_rfl) (by decide) u (by rw [GC]; exact h)
theorem qY : Tryz.prog.globalNamed "strconv.ErrSyntax" = some 0 := by kernel_rfl
theorem tz : Tryz.prog.globalNamed "strconv.ErrRange" = some 1 := by kernel_rfl
theorem adL{W:World}(hsh:W.ShapedOpen Tryz.prog)(h:laidMetH Tryz.prog Rows.fnExactAgreeRow.laid W):Gl Tryz.prog W (gM W):=by
 rw[MakeChecks.laidMetH_plain _ _ _ (by kernel_rfl)]at h
 have e : Rows.fnExactAgreeRow.laid = [("math/bits.deBruijn32tab", Rows.laid_math_bits_deBruijn32tab), ("math/bits.deBruijn64tab", Rows.laid_math_bits_deBruijn64tab), ("internal/strconv.uint64pow10", Lib.tabData .u64 Lib.pow10Tab), ("unicode/utf8.acceptRanges", Rows.laid_unicode_utf8_acceptRanges), ("strconv.ErrRange", Rows.laid_strconv_ErrRange), ("strconv.ErrSyntax", Rows.laid_strconv_ErrSyntax), ("unicode/utf8.first", Rows.laid_unicode_utf8_first)] := by kernel_rfl
 rw[e]at h;exact SC gl0 ⟨.inr ⟨_,VZ,Pg VZ (Lib.tabIs_of_head (t:=303) (e:=269) (n:=20) VZ (by kernel_rfl) (by kernel_rfl) (by kernel_rfl) (by kernel_rfl) (by kernel_rfl) h.tail.tail)⟩,.inr ⟨4,by kernel_rfl,O0 (t:=3) (zero := #[.int .i64 0]) hsh (by decide +kernel) (by kernel_rfl) rfl (by kernel_rfl) (by kernel_rfl) (by kernel_rfl)⟩,.inr ⟨_,qY,On (X:=fun _=>True) qY ((laid_sentinel h.tail.tail.tail.tail.tail qY (by kernel_rfl) Tryz.underlying195 NL Tryz.underlying284 Tryz.underlying286 rfl rfl Tryz.underlying9 (by kernel_rfl) (by kernel_rfl)).imp fun _ h=>⟨h.choose_spec.1,trivial⟩)⟩,.inr ⟨_,tz,On (X:=fun _=>True) tz ((laid_sentinel h.tail.tail.tail.tail tz (by kernel_rfl) Tryz.underlying195 NL Tryz.underlying284 Tryz.underlying286 rfl rfl Tryz.underlying9 (by kernel_rfl) (by kernel_rfl)).imp fun _ h=>⟨h.choose_spec.1,trivial⟩)⟩,trivial⟩
theorem QM(os:Os)(args:Array Value):laidMetH Tryz.prog Rows.fnExactAgreeRow.laid ((World.laidAll Tryz.prog os Rows.fnExactAgreeRow.laid).forCall (fun _ _=>0) ⟨#[],args,[]⟩).memory :=
 by rw[MakeChecks.laidMetH_plain _ _ _ (by kernel_rfl)]; exact laidMet_laidAll _ (by kernel_rfl) (by kernel_rfl)
theorem EI(os:Os):(World.laidAll Tryz.prog os Rows.fnExactAgreeRow.laid).Shaped Tryz.prog:=World.shaped_of_ZipB (by kernel_rfl) (by kernel_rfl)
theorem Wr:Tryz.prog.inPlace 3=Rows.fnExactAgreeRow.inPlace:=by kernel_rfl
theorem WE:Tryz.prog.unfollowed 3=Rows.fnExactAgreeRow.unfollowed:=by kernel_rfl
theorem Wi:Tryz.prog.recurses 3=Rows.fnExactAgreeRow.recurses:=by kernel_rfl
theorem WJ:Tryz.prog.varsNamed 3=Rows.fnExactAgreeRow.named:=by kernel_rfl
theorem Vd:joinedFacts Tryz.prog 3 Tryz.f3 Rows.fnExactAgreeSpec Rows.fnExactAgreeRow=true:=by unfold joinedFacts;rw[Wr,WE,Wi,WJ];kernel_rfl
theorem VK:Rows.fnExactAgreeRow.wfByText (OpenSpec.ofChange Rows.fnExactAgreeSpec)=true:=by kernel_rfl
theorem Vu : Tryz.prog.mainIs = some ((true, "7b1d776fb8907b4decce6c9b2332eb9e57bf308c43c2a3f1d995033f38db9224").1, (true, "7b1d776fb8907b4decce6c9b2332eb9e57bf308c43c2a3f1d995033f38db9224").2.toList) := by kernel_rfl
theorem Vc:true=Tryz.prog.looks []:=by kernel_rfl
theorem WI:false=Rows.fnExactAgreeRow.goesBy Tryz.prog:=by kernel_rfl
theorem EN(os:Os)(started:os.Started)(H:Type)(enc:TypeId×Value->H) :
 ReturnsInHanded {} Tryz.checked os 3 .any (fun w args=>(Rows.fnExactAgreeSpec.pre enc Tryz.prog Tryz.f3 Rows.fnExactAgreeRow.domain false w args/\laidMetH Tryz.prog Rows.fnExactAgreeRow.laid w)/\sizedMet enc Tryz.prog Tryz.f3 (OpenSpec.ofChange Rows.fnExactAgreeSpec) false w args) (Rows.fnExactAgreeSpec.post enc Tryz.prog Tryz.f3 false true false false):=by
 refine DW (C:=Tryz.checked) (X:=fun w _=>laidMetH Tryz.prog Rows.fnExactAgreeRow.laid w) (fun _ _ _ hh h=>h.of_heap hh) Tryz.own started (by kernel_rfl) Tryz.func3
  (ChangeSpec.witness_shaped (enc:=enc) (C:=Tryz.checked) (os:=os) (X:=fun w _=>laidMetH Tryz.prog Rows.fnExactAgreeRow.laid w) false (World.laidAll Tryz.prog os Rows.fnExactAgreeRow.laid) #[.agg #[.slice none 0 0],.slice none 0 0] 8 (World.laidAll_os _ _ _) (EI os) (by kernel_rfl) (by kernel_rfl) (by kernel_rfl) (QM os _)) ?_
 intro W base args ds gs before hval hW hwt hL hsh;have hW':=hW;obtain⟨p,q,hA,hV,_,_,_⟩:=hW';obtain⟨rfl,rfl⟩:gs=[]/\q=[]:=by
  cases gs with
  | nil=>exact⟨rfl,hV⟩
  | cons _ _=>exact hV.elim
 have hwt2:∀ m∈DataW.weightsEach Tryz.prog Tryz.f3.params.toList ds,m<=bG:=fun m hm=>by
  have e:Rows.fnExactAgreeSpec.plain.varTypes Tryz.checked.prog=[]:=rfl;rw[e,afp,afp]at hwt;have:=aeG.1 hwt m hm;have h2:m<=reachBytes:=by simpa using this
  exact aeA h2 (by decide)
 obtain⟨x,hx,hbg⟩:=DE (E:=E0) (P:=Tryz.prog) hT Tryz.f3.params.toList s3.ps (by kernel_rfl) args.toList ds p 0 hA (fun j t v ht hv=>hval j t v (by rw[<- aer]; exact ht) (by rw[<- aer]; exact hv)) hwt2;refine(IZ (P:=Tryz.prog) (c:=ak Tryz.f3) ok3 Tryz.func3 (by kernel_rfl) (by kernel_rfl) (adL hsh hL) hx ⟨_,Im x.1 x.2.1.1 (JN x.1 hbg.1) ⟨hbg.2.1.1.1,fun y hy=>I1 y (hbg.2.1.1.2 y hy)⟩ (HY x.1 hbg.1) (fun y hy=>I3 y (hbg.2.1.1.2 y hy)),fun _ _ _ _ hr=>Ia hr⟩).mono fun e W' ⟨he,hb⟩=>⟨_,he,?_⟩
 have hlen:ds.length=2:=CW _ _ _ _ hA;obtain⟨d1,d2,rfl⟩:∃ d1 d2,ds=[d1,d2]:=by
  match ds,hlen with
  | [d1,d2],_=>exact⟨d1,d2,rfl⟩
 exact Lv (rt:=4) Tryz.laidOut rfl (by kernel_rfl) (by kernel_rfl) (by decide +kernel) hW hb rfl
theorem OK:Rows.FnExactAgreeSaid :=
 OpenClaim.holds_of_wide 3 Tryz.f3 rfl rfl rfl rfl rfl rfl rfl ⟨rfl,rfl,rfl,rfl,rfl⟩ rfl rfl rfl rfl rfl (by kernel_rfl) Tryz.func3 Vd
  (afD (by kernel_rfl)) (by unfold Func.isWrapper; first | (rw[if_pos (by decide +kernel)]; kernel_rfl) | (rw[if_neg (by decide +kernel)]; exact⟨rfl,rfl⟩))
  (fun os started H enc _=>EN os started H enc)
theorem agr_holds:Rows.FnExactAgreeCardSaid :=
 Claim7.holds_tied_plain_at .later [] [.data, .data, .data, .data, .sentinel, .sentinel, .pinned] true (true, "7b1d776fb8907b4decce6c9b2332eb9e57bf308c43c2a3f1d995033f38db9224") true
  OK (fun _ h=>by cases h) VK (fun _ h=>by cases h) fnExactAgree_row_tie rfl ⟨rfl,rfl⟩ Vu rfl
  (fun f fn hf hfn=>by
    obtain rfl : f = 3 := ae9 ((show Tryz.prog.funcNamed "loop.example/g00735/laws.FnExactAgree" = some 3 by kernel_rfl).symm.trans hf) |>.symm
    obtain rfl:fn=Tryz.f3:=(ae9 (Tryz.func3.symm.trans hfn)).symm;exact⟨Vc,fun j t ht=>by
     have hm:t∈[24,25]:=by
      have e:Tryz.f3.params.toList=[24,25]:=by kernel_rfl
      rw[<- e]; exact agv.2 (Array.mem_of_getElem? ht)
     have hall:([24,25].all fun u=> !Tryz.prog.wantsStandIn u)=true:=by kernel_rfl
     exact(show Tryz.prog.wantsStandIn t=false by simpa using List.all_eq_true.1 hall t hm)⟩)
  WI
end Go.Proofs.YtcmhjdkpbgncfaaGreatDoor
#print axioms Go.Proofs.YtcmhjdkpbgncfaaGreatDoor.agr_holds
