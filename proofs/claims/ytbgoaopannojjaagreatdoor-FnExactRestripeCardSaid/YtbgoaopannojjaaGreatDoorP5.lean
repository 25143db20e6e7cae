/- The law FnExactRestripe answers true for every input, and its arguments read as they did. No conditions beyond the statement. -/
import Derived.Test.YtbgoaopannojjaaGreatDoorP4
import Derived.Lay
import Derived.Test.YtbgoaopannojjaaGreatDoorFw4
import Derived.Test.YtbgoaopannojjaaGreatDoorRows
import Derived.Test.YtbgoaopannojjaaGreatDoorCards
import Derived.Test.YtbgoaopannojjaaGreatDoorTie
set_option maxRecDepth 100000
set_option maxHeartbeats 4000000
namespace Go.Av
theorem Iv (x:((List UInt8)×Int×Int×Unit)) (h:uX [.str,.int .i64,.int .i64] x):vT x:=h.1
theorem GZ (x:((List UInt8)×(List UInt8)×(List R5)×Unit)) (h:uX [.str,.str,.sl 5 uM] x):xZ x:=⟨h.1,h.2.1,h.2.2.1.1⟩
theorem Hm (x:((List UInt8)×Int×Int×Int×Int×(List gD)×Int×Int×(List R3)×(List R3)×(List cD)×Unit)) (h:uX [.str,.int .i64,.int .i64,.int .i64,.int .i64,.sl 95 CL,.int .i64,.int .i64,.sl 3 l0,.sl 3 l0,.sl 166 wF] x):xB x:=⟨h.1,⟨h.2.2.2.2.2.1.1,fun y hy=>Iv y (h.2.2.2.2.2.1.2 y hy)⟩,⟨h.2.2.2.2.2.2.2.2.1.1,h.2.2.2.2.2.2.2.2.2.1.1⟩,⟨h.2.2.2.2.2.2.2.2.2.2.1.1,fun y hy=>GZ y (h.2.2.2.2.2.2.2.2.2.2.1.2 y hy)⟩⟩
theorem CU (x:(Int×(List ia)×Unit)) (h:uX [.int .i64,.sl 164 xI] x):mL x:=⟨h.2.1.1,fun y hy=>Hm y (h.2.1.2 y hy)⟩
theorem GI (x:((List R5)×Int×(List R3)×Int×Int×Int×Int×Int×(List R5)×Unit)) (h:uX [.sl 5 uM,.int .i64,.sl 3 l0,.int .i64,.int .i64,.int .i64,.int .i64,.int .i64,.sl 5 uM] x):xQ x:=⟨h.1.1,h.2.2.1.1,h.2.2.2.2.2.2.2.2.1.1⟩
theorem Ec (x:((List qp)×Int×Int×(List od)×Unit)) (h:uX [.sl 81 Ig,.int .i64,.int .i64,.sl 83 Ix] x):AU x:=⟨⟨h.1.1,fun y hy=>CU y (h.1.2 y hy)⟩,⟨h.2.2.2.1.1,fun y hy=>GI y (h.2.2.2.1.2 y hy)⟩⟩
theorem Hj (x:((List UInt8)×(List UInt8)×(List R5)×Unit)) (h:uX [.str,.str,.sl 5 uM] x):Ju x:=(fun y hy=>(h.2.2.1.2 y hy).1)
theorem GV (x:((List UInt8)×Int×Int×Int×Int×(List gD)×Int×Int×(List R3)×(List R3)×(List cD)×Unit)) (h:uX [.str,.int .i64,.int .i64,.int .i64,.int .i64,.sl 95 CL,.int .i64,.int .i64,.sl 3 l0,.sl 3 l0,.sl 166 wF] x):Ks x:=(fun y hy=>Hj y (h.2.2.2.2.2.2.2.2.2.2.1.2 y hy))
theorem Du (x:(Int×(List ia)×Unit)) (h:uX [.int .i64,.sl 164 xI] x):CX x:=(fun y hy=>GV y (h.2.1.2 y hy))
theorem GW (x:((List R5)×Int×(List R3)×Int×Int×Int×Int×Int×(List R5)×Unit)) (h:uX [.sl 5 uM,.int .i64,.sl 3 l0,.int .i64,.int .i64,.int .i64,.int .i64,.int .i64,.sl 5 uM] x):Ep x:=⟨(fun y hy=>(h.1.2 y hy).1),(fun y hy=>(h.2.2.2.2.2.2.2.2.1.2 y hy).1)⟩
theorem Em (x:((List qp)×Int×Int×(List od)×Unit)) (h:uX [.sl 81 Ig,.int .i64,.int .i64,.sl 83 Ix] x):AL x:=⟨(fun y hy=>Du y (h.1.2 y hy)),(fun y hy=>GW y (h.2.2.2.1.2 y hy))⟩
end Go.Av
namespace Go.Proofs.YtbgoaopannojjaaGreatDoor
open Go.ChangeShapes Go.WideShapes Go.ChangeAt Go.RowKit Go.Av
theorem Tryz.own:ownKnob Tryz.prog.godebug=none:=by kernel_rfl
theorem Tryz.laidOut:laidOutB Tryz.prog=true:=by kernel_rfl
theorem RU : Tryz.prog.globalNamed "internal/strconv.uint64pow10" = some 0 := by kernel_rfl
theorem Gm : "*" ++ "errors.errorString" = "*errors.errorString" := by decide
theorem KC (u : TypeId) (h : Tryz.prog.typeName? 3 u = some "*errors.errorString") : u = 305 :=
 typeName_ptr_named (nm := "errors.errorString") (by rw [Gm]; kernel_rfl) (by kernel_rfl) (by decide) u (by rw [Gm]; exact h)
theorem pW : Tryz.prog.globalNamed "strconv.ErrSyntax" = some 3 := by kernel_rfl
theorem sx : Tryz.prog.globalNamed "strconv.ErrRange" = some 4 := by kernel_rfl
theorem abj {W:World} (hsh:W.ShapedOpen Tryz.prog) (h:laidMetH Tryz.prog Rows.fnExactRestripeRow.laid W):Gl Tryz.prog W (fZ W):=by
 rw [MakeChecks.laidMetH_plain _ _ _ (by kernel_rfl)] at h
 have e : Rows.fnExactRestripeRow.laid = [("math/bits.deBruijn32tab", Rows.laid_math_bits_deBruijn32tab), ("math/bits.deBruijn64tab", Rows.laid_math_bits_deBruijn64tab), ("internal/strconv.uint64pow10", Lib.tabData .u64 Lib.pow10Tab), ("unicode/utf8.acceptRanges", Rows.laid_unicode_utf8_acceptRanges), ("strconv.ErrRange", Rows.laid_strconv_ErrRange), ("strconv.ErrSyntax", Rows.laid_strconv_ErrSyntax), ("unicode/utf8.first", Rows.laid_unicode_utf8_first)] := by kernel_rfl
 rw [e] at h;exact PX gl0 ⟨.inr ⟨_,RU,NG RU (Lib.tabIs_of_head (t:=259) (e:=212) (n:=20) RU (by kernel_rfl) (by kernel_rfl) (by kernel_rfl) (by kernel_rfl) (by kernel_rfl) h.tail.tail)⟩,.inr ⟨7,by kernel_rfl,PA (t:=3) (zero := #[.int .i64 0]) hsh (by decide +kernel) (by kernel_rfl) rfl (by kernel_rfl) (by kernel_rfl) (by kernel_rfl)⟩,.inr ⟨_,pW,Ll (X:=fun _=>True) pW ((laid_sentinel h.tail.tail.tail.tail.tail pW (by kernel_rfl) Tryz.underlying242 KC Tryz.underlying305 Tryz.underlying307 rfl rfl Tryz.underlying9 (by kernel_rfl) (by kernel_rfl)).imp fun _ h=>⟨h.choose_spec.1,trivial⟩)⟩,.inr ⟨_,sx,Ll (X:=fun _=>True) sx ((laid_sentinel h.tail.tail.tail.tail sx (by kernel_rfl) Tryz.underlying242 KC Tryz.underlying305 Tryz.underlying307 rfl rfl Tryz.underlying9 (by kernel_rfl) (by kernel_rfl)).imp fun _ h=>⟨h.choose_spec.1,trivial⟩)⟩,trivial⟩
theorem MR (os:Os) (args:Array Value):laidMetH Tryz.prog Rows.fnExactRestripeRow.laid ((World.laidAll Tryz.prog os Rows.fnExactRestripeRow.laid).forCall (fun _ _=>0) ⟨#[],args,[]⟩).memory :=
 by rw [MakeChecks.laidMetH_plain _ _ _ (by kernel_rfl)]; exact laidMet_laidAll _ (by kernel_rfl) (by kernel_rfl)
theorem EK (os:Os):(World.laidAll Tryz.prog os Rows.fnExactRestripeRow.laid).Shaped Tryz.prog:=World.shaped_of_ZipB (by kernel_rfl) (by kernel_rfl)
theorem S9:Tryz.prog.inPlace 6=Rows.fnExactRestripeRow.inPlace:=by kernel_rfl
theorem S8:Tryz.prog.unfollowed 6=Rows.fnExactRestripeRow.unfollowed:=by kernel_rfl
theorem Tg:Tryz.prog.recurses 6=Rows.fnExactRestripeRow.recurses:=by kernel_rfl
theorem T3:Tryz.prog.varsNamed 6=Rows.fnExactRestripeRow.named:=by kernel_rfl
theorem Tu:joinedFacts Tryz.prog 6 Tryz.f6 Rows.fnExactRestripeSpec Rows.fnExactRestripeRow=true:=by unfold joinedFacts;rw [S9,S8,Tg,T3];kernel_rfl
theorem SL:Rows.fnExactRestripeRow.wfByText (OpenSpec.ofChange Rows.fnExactRestripeSpec)=true:=by kernel_rfl
theorem RW : Tryz.prog.mainIs = some ((true, "63520011f0a2b22137a1671335d861aaeec399f60ad374b0d994d8a8995ab031").1, (true, "63520011f0a2b22137a1671335d861aaeec399f60ad374b0d994d8a8995ab031").2.toList) := by kernel_rfl
theorem Sg:true=Tryz.prog.looks []:=by kernel_rfl
theorem Se:false=Rows.fnExactRestripeRow.goesBy Tryz.prog:=by kernel_rfl
theorem DN (os:Os) (started:os.Started) (H:Type) (enc:TypeId×Value->H) :
 ReturnsInHanded {} Tryz.checked os 6 .any (fun w args=>(Rows.fnExactRestripeSpec.pre enc Tryz.prog Tryz.f6 Rows.fnExactRestripeRow.domain false w args/\laidMetH Tryz.prog Rows.fnExactRestripeRow.laid w)/\sizedMet enc Tryz.prog Tryz.f6 (OpenSpec.ofChange Rows.fnExactRestripeSpec) false w args) (Rows.fnExactRestripeSpec.post enc Tryz.prog Tryz.f6 false true false false):=by
 refine B7 (C:=Tryz.checked) (X:=fun w _=>laidMetH Tryz.prog Rows.fnExactRestripeRow.laid w) (fun _ _ _ hh h=>h.of_heap hh) Tryz.own started (by kernel_rfl) Tryz.func6
  (ChangeSpec.witness_shaped (enc:=enc) (C:=Tryz.checked) (os:=os) (X:=fun w _=>laidMetH Tryz.prog Rows.fnExactRestripeRow.laid w) false (World.laidAll Tryz.prog os Rows.fnExactRestripeRow.laid) #[.agg #[.slice none 0 0,.int .i64 0,.int .i64 0,.slice none 0 0],.int .i64 0] 8 (World.laidAll_os _ _ _) (EK os) (by kernel_rfl) (by kernel_rfl) (by kernel_rfl) (MR os _)) ?_
 intro W base args ds gs before hval hW hwt hL hsh;have hW':=hW;obtain ⟨p,q,hA,hV,_,_,_⟩:=hW';obtain ⟨rfl,rfl⟩:gs=[]/\q=[]:=by
  cases gs with
  | nil=>exact ⟨rfl,hV⟩
  | cons _ _=>exact hV.elim
 have hwt2:∀ m∈DataW.weightsEach Tryz.prog Tryz.f6.params.toList ds,m<=aT:=fun m hm=>by
  have e:Rows.fnExactRestripeSpec.plain.varTypes Tryz.checked.prog=[]:=rfl;rw [e,adE,adE] at hwt;have:=adx.1 hwt m hm;have h2:m<=reachBytes:=by simpa using this
  exact ady h2 (by decide)
 obtain ⟨x,hx,hbg⟩:=Ck (E:=E0) (P:=Tryz.prog) hT Tryz.f6.params.toList s6.ps (by kernel_rfl) args.toList ds p 0 hA (fun j t v ht hv=>hval j t v (by rw [<- ac8]; exact ht) (by rw [<- ac8]; exact hv)) hwt2;refine (H6 (P:=Tryz.prog) (c:=ak Tryz.f6) ok6 Tryz.func6 (by kernel_rfl) (by kernel_rfl) (abj hsh hL) hx ⟨_,Bl x.1 x.2.1.1 (Ec x.1 hbg.1) (Em x.1 hbg.1),fun _ _ _ _ hr=>Iq hr⟩).mono fun e W' ⟨he,hb⟩=>⟨_,he,?_⟩
 have hlen:ds.length=2:=BE _ _ _ _ hA;obtain ⟨d1,d2,rfl⟩:∃ d1 d2,ds=[d1,d2]:=by
  match ds,hlen with
  | [d1,d2],_=>exact ⟨d1,d2,rfl⟩
 exact LF (rt:=4) Tryz.laidOut rfl (by kernel_rfl) (by kernel_rfl) (by decide +kernel) hW hb rfl
theorem O9:Rows.FnExactRestripeSaid :=
 OpenClaim.holds_of_wide 6 Tryz.f6 rfl rfl rfl rfl rfl rfl rfl ⟨rfl,rfl,rfl,rfl,rfl⟩ rfl rfl rfl rfl rfl (by kernel_rfl) Tryz.func6 Tu
  (of_decide_eq_true (by kernel_rfl)) (by unfold Func.isWrapper; first | (rw [if_pos (by decide +kernel)]; kernel_rfl) | (rw [if_neg (by decide +kernel)]; exact ⟨rfl,rfl⟩))
  (fun os started H enc _=>DN os started H enc)
theorem rst_holds:Rows.FnExactRestripeCardSaid :=
 Claim7.holds_tied_plain_at .later [] [.data, .data, .data, .data, .sentinel, .sentinel, .pinned] true (true, "63520011f0a2b22137a1671335d861aaeec399f60ad374b0d994d8a8995ab031") true
  O9 (fun _ h=>by cases h) SL (fun _ h=>by cases h) fnExactRestripe_row_tie rfl ⟨rfl,rfl⟩ RW rfl
  (fun f fn hf hfn=>by
    obtain rfl : f = 6 := aeb ((show Tryz.prog.funcNamed "loop.example/g00735/laws.FnExactRestripe" = some 6 by kernel_rfl).symm.trans hf) |>.symm
    obtain rfl:fn=Tryz.f6:=(aeb (Tryz.func6.symm.trans hfn)).symm;exact ⟨Sg,fun j t ht=>by
     have hm:t∈[25,3]:=by
      have e:Tryz.f6.params.toList=[25,3]:=by kernel_rfl
      rw [<- e]; exact aeu.2 (afO ht)
     have hall:([25,3].all fun u=> !Tryz.prog.wantsStandIn u)=true:=by kernel_rfl
     exact (show Tryz.prog.wantsStandIn t=false by simpa using List.all_eq_true.1 hall t hm)⟩)
  Se
end Go.Proofs.YtbgoaopannojjaaGreatDoor
#print axioms Go.Proofs.YtbgoaopannojjaaGreatDoor.rst_holds
