/- The law FnExactWorldShow answers true for every input, and its arguments read as they did. No conditions beyond the statement. -/
import Derived.Test.YtbgoaopannojjaaGreatDoorP4
import Derived.Lay
import Derived.Test.YtbgoaopannojjaaGreatDoorFw4
import Derived.Test.YtbgoaopannojjaaGreatDoorRows
import Derived.Test.YtbgoaopannojjaaGreatDoorCards
import Derived.Test.YtbgoaopannojjaaGreatDoorTie
set_option maxRecDepth 100000
set_option maxHeartbeats 4000000
namespace Go.Av
theorem Hn (x:((List UInt8)×Int×Int×Unit)) (h:ub [.str,.int .i64,.int .i64] x):vc x:=h.1
theorem GH (x:((List UInt8)×(List UInt8)×(List R5)×Unit)) (h:ub [.str,.str,.sl 5 tZ] x):xd x:=⟨h.1,h.2.1,h.2.2.1.1⟩
theorem Hk (x:((List UInt8)×Int×Int×Int×Int×(List fA)×Int×Int×(List R3)×(List R3)×(List cV)×Unit)) (h:ub [.str,.int .i64,.int .i64,.int .i64,.int .i64,.sl 95 wM,.int .i64,.int .i64,.sl 3 lh,.sl 3 lh,.sl 166 vY] x):uD x:=⟨h.1,⟨h.2.2.2.2.2.1.1,fun y hy=>Hn y (h.2.2.2.2.2.1.2 y hy)⟩,⟨h.2.2.2.2.2.2.2.2.1.1,h.2.2.2.2.2.2.2.2.2.1.1⟩,⟨h.2.2.2.2.2.2.2.2.2.2.1.1,fun y hy=>GH y (h.2.2.2.2.2.2.2.2.2.2.1.2 y hy)⟩⟩
theorem AX (x:(Int×(List iF)×Unit)) (h:ub [.int .i64,.sl 164 wi] x):me x:=⟨h.2.1.1,fun y hy=>Hk y (h.2.1.2 y hy)⟩
theorem GG (x:((List R5)×Int×(List R3)×Int×Int×Int×Int×Int×(List R5)×Unit)) (h:ub [.sl 5 tZ,.int .i64,.sl 3 lh,.int .i64,.int .i64,.int .i64,.int .i64,.int .i64,.sl 5 tZ] x):vf x:=⟨h.1.1,h.2.2.1.1,h.2.2.2.2.2.2.2.2.1.1⟩
theorem CK (x:((List tW)×Int×Int×(List rG)×Unit)) (h:ub [.sl 81 FP,.int .i64,.int .i64,.sl 83 Gt] x):zr x:=⟨⟨h.1.1,fun y hy=>AX y (h.1.2 y hy)⟩,⟨h.2.2.2.1.1,fun y hy=>GG y (h.2.2.2.1.2 y hy)⟩⟩
theorem FO (x:((List UInt8)×(List UInt8)×(List R5)×Unit)) (h:ub [.str,.str,.sl 5 tZ] x):I2 x:=(fun y hy=>(h.2.2.1.2 y hy).1)
theorem F6 (x:((List UInt8)×Int×Int×Int×Int×(List fA)×Int×Int×(List R3)×(List R3)×(List cV)×Unit)) (h:ub [.str,.int .i64,.int .i64,.int .i64,.int .i64,.sl 95 wM,.int .i64,.int .i64,.sl 3 lh,.sl 3 lh,.sl 166 vY] x):Lh x:=(fun y hy=>FO y (h.2.2.2.2.2.2.2.2.2.2.1.2 y hy))
theorem BP (x:(Int×(List iF)×Unit)) (h:ub [.int .i64,.sl 164 wi] x):Cn x:=(fun y hy=>F6 y (h.2.1.2 y hy))
theorem GM (x:((List R5)×Int×(List R3)×Int×Int×Int×Int×Int×(List R5)×Unit)) (h:ub [.sl 5 tZ,.int .i64,.sl 3 lh,.int .i64,.int .i64,.int .i64,.int .i64,.int .i64,.sl 5 tZ] x):Dk x:=⟨(fun y hy=>(h.1.2 y hy).1),(fun y hy=>(h.2.2.2.2.2.2.2.2.1.2 y hy).1)⟩
theorem Dm (x:((List tW)×Int×Int×(List rG)×Unit)) (h:ub [.sl 81 FP,.int .i64,.int .i64,.sl 83 Gt] x):yZ x:=⟨(fun y hy=>BP y (h.1.2 y hy)),(fun y hy=>GM y (h.2.2.2.1.2 y hy))⟩
end Go.Av
namespace Go.Proofs.YtbgoaopannojjaaGreatDoor
open Go.ChangeShapes Go.WideShapes Go.ChangeAt Go.RowKit Go.Av
theorem Tryz.own:ownKnob Tryz.prog.godebug=none:=by kernel_rfl
theorem Tryz.laidOut:laidOutB Tryz.prog=true:=by kernel_rfl
theorem Rz : Tryz.prog.globalNamed "internal/strconv.uint64pow10" = some 0 := by kernel_rfl
theorem ES : "*" ++ "errors.errorString" = "*errors.errorString" := by decide
theorem IS (u : TypeId) (h : Tryz.prog.typeName? 3 u = some "*errors.errorString") : u = 305 :=
 typeName_ptr_named (nm := "errors.errorString") (by rw [ES]; kernel_rfl) (by kernel_rfl) (by decide) u (by rw [ES]; exact h)
theorem oC : Tryz.prog.globalNamed "strconv.ErrSyntax" = some 3 := by kernel_rfl
theorem rU : Tryz.prog.globalNamed "strconv.ErrRange" = some 4 := by kernel_rfl
theorem Y7 {W:World} (hsh:W.ShapedOpen Tryz.prog) (h:laidMetH Tryz.prog Rows.fnExactWorldShowRow.laid W):Gl Tryz.prog W (fx W):=by
 rw [MakeChecks.laidMetH_plain _ _ _ (by kernel_rfl)] at h
 have e : Rows.fnExactWorldShowRow.laid = [("math/bits.deBruijn32tab", Rows.laid_math_bits_deBruijn32tab), ("math/bits.deBruijn64tab", Rows.laid_math_bits_deBruijn64tab), ("internal/strconv.uint64pow10", Lib.tabData .u64 Lib.pow10Tab), ("unicode/utf8.acceptRanges", Rows.laid_unicode_utf8_acceptRanges), ("strconv.ErrRange", Rows.laid_strconv_ErrRange), ("strconv.ErrSyntax", Rows.laid_strconv_ErrSyntax), ("unicode/utf8.first", Rows.laid_unicode_utf8_first)] := by kernel_rfl
 rw [e] at h;exact Pu XI ⟨.inr ⟨_,Rz,L4 Rz (Lib.tabIs_of_head (t:=259) (e:=212) (n:=20) Rz (by kernel_rfl) (by kernel_rfl) (by kernel_rfl) (by kernel_rfl) (by kernel_rfl) h.tail.tail)⟩,.inr ⟨7,by kernel_rfl,Mh (t:=3) (zero := #[.int .i64 0]) hsh (by decide +kernel) (by kernel_rfl) rfl (by kernel_rfl) (by kernel_rfl) (by kernel_rfl)⟩,.inr ⟨_,oC,Lx (X:=fun _=>True) oC ((laid_sentinel h.tail.tail.tail.tail.tail oC (by kernel_rfl) Tryz.underlying242 IS Tryz.underlying305 Tryz.underlying307 rfl rfl Tryz.underlying9 (by kernel_rfl) (by kernel_rfl)).imp fun _ h=>⟨h.choose_spec.1,trivial⟩)⟩,.inr ⟨_,rU,Lx (X:=fun _=>True) rU ((laid_sentinel h.tail.tail.tail.tail rU (by kernel_rfl) Tryz.underlying242 IS Tryz.underlying305 Tryz.underlying307 rfl rfl Tryz.underlying9 (by kernel_rfl) (by kernel_rfl)).imp fun _ h=>⟨h.choose_spec.1,trivial⟩)⟩,trivial⟩
theorem M7 (os:Os) (args:Array Value):laidMetH Tryz.prog Rows.fnExactWorldShowRow.laid ((World.laidAll Tryz.prog os Rows.fnExactWorldShowRow.laid).forCall (fun _ _=>0) ⟨#[],args,[]⟩).memory :=
 by rw [MakeChecks.laidMetH_plain _ _ _ (by kernel_rfl)]; exact laidMet_laidAll _ (by kernel_rfl) (by kernel_rfl)
theorem DQ (os:Os):(World.laidAll Tryz.prog os Rows.fnExactWorldShowRow.laid).Shaped Tryz.prog:=World.shaped_of_ZipB (by kernel_rfl) (by kernel_rfl)
theorem Sp:Tryz.prog.inPlace 3=Rows.fnExactWorldShowRow.inPlace:=by kernel_rfl
theorem Qr:Tryz.prog.unfollowed 3=Rows.fnExactWorldShowRow.unfollowed:=by kernel_rfl
theorem Qs:Tryz.prog.recurses 3=Rows.fnExactWorldShowRow.recurses:=by kernel_rfl
theorem QJ:Tryz.prog.varsNamed 3=Rows.fnExactWorldShowRow.named:=by kernel_rfl
theorem RH:joinedFacts Tryz.prog 3 Tryz.f3 Rows.fnExactWorldShowSpec Rows.fnExactWorldShowRow=true:=by unfold joinedFacts;rw [Sp,Qr,Qs,QJ];kernel_rfl
theorem Ra:Rows.fnExactWorldShowRow.wfByText (OpenSpec.ofChange Rows.fnExactWorldShowSpec)=true:=by kernel_rfl
theorem Rj : Tryz.prog.mainIs = some ((true, "63520011f0a2b22137a1671335d861aaeec399f60ad374b0d994d8a8995ab031").1, (true, "63520011f0a2b22137a1671335d861aaeec399f60ad374b0d994d8a8995ab031").2.toList) := by kernel_rfl
theorem Rf:true=Tryz.prog.looks []:=by kernel_rfl
theorem RF:false=Rows.fnExactWorldShowRow.goesBy Tryz.prog:=by kernel_rfl
theorem DI (os:Os) (started:os.Started) (H:Type) (enc:TypeId×Value->H) :
 ReturnsInHanded {} Tryz.checked os 3 .any (fun w args=>(Rows.fnExactWorldShowSpec.pre enc Tryz.prog Tryz.f3 Rows.fnExactWorldShowRow.domain false w args/\laidMetH Tryz.prog Rows.fnExactWorldShowRow.laid w)/\sizedMet enc Tryz.prog Tryz.f3 (OpenSpec.ofChange Rows.fnExactWorldShowSpec) false w args) (Rows.fnExactWorldShowSpec.post enc Tryz.prog Tryz.f3 false true false false):=by
 refine AN (C:=Tryz.checked) (X:=fun w _=>laidMetH Tryz.prog Rows.fnExactWorldShowRow.laid w) (fun _ _ _ hh h=>h.of_heap hh) Tryz.own started (by kernel_rfl) Tryz.func3
  (ChangeSpec.witness_shaped (enc:=enc) (C:=Tryz.checked) (os:=os) (X:=fun w _=>laidMetH Tryz.prog Rows.fnExactWorldShowRow.laid w) false (World.laidAll Tryz.prog os Rows.fnExactWorldShowRow.laid) #[.agg #[.slice none 0 0,.int .i64 0,.int .i64 0,.slice none 0 0]] 8 (World.laidAll_os _ _ _) (DQ os) (by kernel_rfl) (by kernel_rfl) (by kernel_rfl) (M7 os _)) ?_
 intro W base args ds gs before hval hW hwt hL hsh;have hW':=hW;obtain ⟨p,q,hA,hV,_,_,_⟩:=hW';obtain ⟨rfl,rfl⟩:gs=[]/\q=[]:=by
  cases gs with
  | nil=>exact ⟨rfl,hV⟩
  | cons _ _=>exact hV.elim
 have hwt2:∀ m∈DataW.weightsEach Tryz.prog Tryz.f3.params.toList ds,m<=aS:=fun m hm=>by
  have e:Rows.fnExactWorldShowSpec.plain.varTypes Tryz.checked.prog=[]:=rfl;rw [e,acN,acN] at hwt;have:=acH.1 hwt m hm;have h2:m<=reachBytes:=by simpa using this
  exact acv h2 (by decide)
 obtain ⟨x,hx,hbg⟩:=Bh (E:=E0) (P:=Tryz.prog) hT Tryz.f3.params.toList s3.ps (by kernel_rfl) args.toList ds p 0 hA (fun j t v ht hv=>hval j t v (by rw [<- acf]; exact ht) (by rw [<- acf]; exact hv)) hwt2;refine (FT (P:=Tryz.prog) (c:=ah Tryz.f3) ok3 Tryz.func3 (by kernel_rfl) (by kernel_rfl) (Y7 hsh hL) hx ⟨_,xT x.1 (CK x.1 hbg.1) (Dm x.1 hbg.1),fun _ _ _ _ hr=>Hs hr⟩).mono fun e W' ⟨he,hb⟩=>⟨_,he,?_⟩
 have hlen:ds.length=1:=AM _ _ _ _ hA;obtain ⟨d1,rfl⟩:∃ d1,ds=[d1]:=by
  match ds,hlen with
  | [d1],_=>exact ⟨d1,rfl⟩
 exact HW (rt:=4) Tryz.laidOut rfl (by kernel_rfl) (by kernel_rfl) (by decide +kernel) hW hb rfl
theorem MU:Rows.FnExactWorldShowSaid :=
 OpenClaim.holds_of_wide 3 Tryz.f3 rfl rfl rfl rfl rfl rfl rfl ⟨rfl,rfl,rfl,rfl,rfl⟩ rfl rfl rfl rfl rfl (by kernel_rfl) Tryz.func3 RH
  (of_decide_eq_true (by kernel_rfl)) (by unfold Func.isWrapper; first | (rw [if_pos (by decide +kernel)]; kernel_rfl) | (rw [if_neg (by decide +kernel)]; exact ⟨rfl,rfl⟩))
  (fun os started H enc _=>DI os started H enc)
theorem wsh_holds:Rows.FnExactWorldShowCardSaid :=
 Claim7.holds_tied_plain_at .later [] [.data, .data, .data, .data, .sentinel, .sentinel, .pinned] true (true, "63520011f0a2b22137a1671335d861aaeec399f60ad374b0d994d8a8995ab031") true
  MU (fun _ h=>by cases h) Ra (fun _ h=>by cases h) fnExactWorldShow_row_tie rfl ⟨rfl,rfl⟩ Rj rfl
  (fun f fn hf hfn=>by
    obtain rfl : f = 3 := adk ((show Tryz.prog.funcNamed "loop.example/g00735/laws.FnExactWorldShow" = some 3 by kernel_rfl).symm.trans hf) |>.symm
    obtain rfl:fn=Tryz.f3:=(adk (Tryz.func3.symm.trans hfn)).symm;exact ⟨Rf,fun j t ht=>by
     have hm:t∈[25]:=by
      have e:Tryz.f3.params.toList=[25]:=by kernel_rfl
      rw [<- e]; exact adw.2 (aeJ ht)
     have hall:([25].all fun u=> !Tryz.prog.wantsStandIn u)=true:=by kernel_rfl
     exact (show Tryz.prog.wantsStandIn t=false by simpa using List.all_eq_true.1 hall t hm)⟩)
  RF
end Go.Proofs.YtbgoaopannojjaaGreatDoor
#print axioms Go.Proofs.YtbgoaopannojjaaGreatDoor.wsh_holds
