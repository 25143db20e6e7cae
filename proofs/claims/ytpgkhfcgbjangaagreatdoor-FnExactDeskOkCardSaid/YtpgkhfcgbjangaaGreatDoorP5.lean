/- The law FnExactDeskOk answers true for every input, and its arguments read as they did. No conditions beyond the statement. -/
import Derived.Test.YtpgkhfcgbjangaaGreatDoorP4
import Derived.Lay
import Derived.Test.YtpgkhfcgbjangaaGreatDoorFw4
import Derived.Test.YtpgkhfcgbjangaaGreatDoorRows
import Derived.Test.YtpgkhfcgbjangaaGreatDoorCards
import Derived.Test.YtpgkhfcgbjangaaGreatDoorTie
set_option maxRecDepth 100000
set_option maxHeartbeats 4000000
namespace Go.Av
theorem EZ (x:((List UInt8)×Int×Int×Unit)) (h:tw [.str,.int .i64,.int .i64] x):vc x:=h.1
theorem FG (x:((List UInt8)×(List UInt8)×(List R5)×Unit)) (h:tw [.str,.str,.sl 5 fx] x):vL x:=⟨h.1,h.2.1,h.2.2.1.1⟩
theorem xy (x:((List UInt8)×Int×Int×Int×Int×(List di)×Int×Int×(List R3)×(List R3)×(List dh)×Unit)) (h:tw [.str,.int .i64,.int .i64,.int .i64,.int .i64,.sl 157 dF,.int .i64,.int .i64,.sl 3 aK,.sl 3 aK,.sl 160 cW] x):qQ x:=⟨h.1,⟨h.2.2.2.2.2.1.1,fun y hy=>EZ y (h.2.2.2.2.2.1.2 y hy)⟩,⟨h.2.2.2.2.2.2.2.2.1.1,h.2.2.2.2.2.2.2.2.2.1.1⟩,⟨h.2.2.2.2.2.2.2.2.2.2.1.1,fun y hy=>FG y (h.2.2.2.2.2.2.2.2.2.2.1.2 y hy)⟩⟩
theorem Bc (x:(Int×(List de)×Unit)) (h:tw [.int .i64,.sl 92 bl] x):l0 x:=⟨h.2.1.1,fun y hy=>xy y (h.2.1.2 y hy)⟩
theorem Ep (x:((List R5)×Int×(List R3)×Int×Int×Int×Int×Int×(List R5)×Unit)) (h:tw [.sl 5 fx,.int .i64,.sl 3 aK,.int .i64,.int .i64,.int .i64,.int .i64,.int .i64,.sl 5 fx] x):uO x:=⟨h.1.1,h.2.2.1.1,h.2.2.2.2.2.2.2.2.1.1⟩
theorem Ft (x:((List eD)×Int×(List nk)×Int×Int×(List lX)×Unit)) (h:tw [.sl 124 fF,.int .i64,.sl 84 lQ,.int .i64,.int .i64,.sl 86 gJ] x):CE x:=⟨⟨h.1.1,fun y hy=>xy y (h.1.2 y hy)⟩,⟨⟨h.2.2.1.1,fun y hy=>Bc y (h.2.2.1.2 y hy)⟩,⟨h.2.2.2.2.2.1.1,fun y hy=>Ep y (h.2.2.2.2.2.1.2 y hy)⟩⟩⟩
theorem FI (x:((List UInt8)×(List UInt8)×(List R5)×Unit)) (h:tw [.str,.str,.sl 5 fx] x):Iw x:=(fun y hy=>(h.2.2.1.2 y hy).1)
theorem xw (x:((List UInt8)×Int×Int×Int×Int×(List di)×Int×Int×(List R3)×(List R3)×(List dh)×Unit)) (h:tw [.str,.int .i64,.int .i64,.int .i64,.int .i64,.sl 157 dF,.int .i64,.int .i64,.sl 3 aK,.sl 3 aK,.sl 160 cW] x):CL x:=(fun y hy=>FI y (h.2.2.2.2.2.2.2.2.2.2.1.2 y hy))
theorem At (x:(Int×(List de)×Unit)) (h:tw [.int .i64,.sl 92 bl] x):Bo x:=(fun y hy=>xw y (h.2.1.2 y hy))
theorem Fg (x:((List R5)×Int×(List R3)×Int×Int×Int×Int×Int×(List R5)×Unit)) (h:tw [.sl 5 fx,.int .i64,.sl 3 aK,.int .i64,.int .i64,.int .i64,.int .i64,.int .i64,.sl 5 fx] x):Cm x:=⟨(fun y hy=>(h.1.2 y hy).1),(fun y hy=>(h.2.2.2.2.2.2.2.2.1.2 y hy).1)⟩
theorem F2 (x:((List eD)×Int×(List nk)×Int×Int×(List lX)×Unit)) (h:tw [.sl 124 fF,.int .i64,.sl 84 lQ,.int .i64,.int .i64,.sl 86 gJ] x):BN x:=⟨(fun y hy=>xw y (h.1.2 y hy)),⟨(fun y hy=>At y (h.2.2.1.2 y hy)),(fun y hy=>Fg y (h.2.2.2.2.2.1.2 y hy))⟩⟩
end Go.Av
namespace Go.Proofs.YtpgkhfcgbjangaaGreatDoor
open Go.ChangeShapes Go.WideShapes Go.ChangeAt Go.RowKit Go.Av
theorem Tryz.own:ownKnob Tryz.prog.godebug=none:=by kernel_rfl
theorem Tryz.laidOut:laidOutB Tryz.prog=true:=by kernel_rfl
theorem NW : Tryz.prog.globalNamed "internal/strconv.uint64pow10" = some 5 := by kernel_rfl
theorem Ds : "*" ++ "errors.errorString" = "*errors.errorString" := by decide
theorem G8 (u : TypeId) (h : Tryz.prog.typeName? 3 u = some "*errors.errorString") : u = 286 :=
 typeName_ptr_named (nm := "errors.errorString") (by rw [Ds]; kernel_rfl) (by kernel_rfl) (by decide) u (by rw [Ds]; exact h)
theorem nv : Tryz.prog.globalNamed "strconv.ErrSyntax" = some 0 := by kernel_rfl
theorem qO : Tryz.prog.globalNamed "strconv.ErrRange" = some 1 := by kernel_rfl
theorem Wc {W:World} (hsh:W.ShapedOpen Tryz.prog) (h:laidMetH Tryz.prog Rows.fnExactDeskOkRow.laid W):Gl Tryz.prog W (fw W):=by
 rw [MakeChecks.laidMetH_plain _ _ _ (by kernel_rfl)] at h
 have e : Rows.fnExactDeskOkRow.laid = [("math/bits.deBruijn32tab", Rows.laid_math_bits_deBruijn32tab), ("math/bits.deBruijn64tab", Rows.laid_math_bits_deBruijn64tab), ("internal/strconv.uint64pow10", Lib.tabData .u64 Lib.pow10Tab), ("unicode/utf8.acceptRanges", Rows.laid_unicode_utf8_acceptRanges), ("strconv.ErrRange", Rows.laid_strconv_ErrRange), ("strconv.ErrSyntax", Rows.laid_strconv_ErrSyntax), ("unicode/utf8.first", Rows.laid_unicode_utf8_first)] := by kernel_rfl
 rw [e] at h;exact MH Yp ⟨.inr ⟨_,NW,Lu NW (Lib.tabIs_of_head (t:=301) (e:=228) (n:=20) NW (by kernel_rfl) (by kernel_rfl) (by kernel_rfl) (by kernel_rfl) (by kernel_rfl) h.tail.tail)⟩,.inr ⟨4,by kernel_rfl,KM (t:=3) (zero := #[.int .i64 0]) hsh (by decide +kernel) (by kernel_rfl) rfl (by kernel_rfl) (by kernel_rfl) (by kernel_rfl)⟩,.inr ⟨_,nv,HU (X:=fun _=>True) nv ((laid_sentinel h.tail.tail.tail.tail.tail nv (by kernel_rfl) Tryz.underlying235 G8 Tryz.underlying286 Tryz.underlying288 rfl rfl Tryz.underlying9 (by kernel_rfl) (by kernel_rfl)).imp fun _ h=>⟨h.choose_spec.1,trivial⟩)⟩,.inr ⟨_,qO,HU (X:=fun _=>True) qO ((laid_sentinel h.tail.tail.tail.tail qO (by kernel_rfl) Tryz.underlying235 G8 Tryz.underlying286 Tryz.underlying288 rfl rfl Tryz.underlying9 (by kernel_rfl) (by kernel_rfl)).imp fun _ h=>⟨h.choose_spec.1,trivial⟩)⟩,trivial⟩
theorem LP (os:Os) (args:Array Value):laidMetH Tryz.prog Rows.fnExactDeskOkRow.laid ((World.laidAll Tryz.prog os Rows.fnExactDeskOkRow.laid).forCall (fun _ _=>0) ⟨#[],args,[]⟩).memory :=
 by rw [MakeChecks.laidMetH_plain _ _ _ (by kernel_rfl)]; exact laidMet_laidAll _ (by kernel_rfl) (by kernel_rfl)
theorem BY (os:Os):(World.laidAll Tryz.prog os Rows.fnExactDeskOkRow.laid).Shaped Tryz.prog:=World.shaped_of_ZipB (by kernel_rfl) (by kernel_rfl)
theorem N8:Tryz.prog.inPlace 5=Rows.fnExactDeskOkRow.inPlace:=by kernel_rfl
theorem Ow:Tryz.prog.unfollowed 5=Rows.fnExactDeskOkRow.unfollowed:=by kernel_rfl
theorem O8:Tryz.prog.recurses 5=Rows.fnExactDeskOkRow.recurses:=by kernel_rfl
theorem Pe:Tryz.prog.varsNamed 5=Rows.fnExactDeskOkRow.named:=by kernel_rfl
theorem NX:joinedFacts Tryz.prog 5 Tryz.f5 Rows.fnExactDeskOkSpec Rows.fnExactDeskOkRow=true:=by unfold joinedFacts;rw [N8,Ow,O8,Pe];kernel_rfl
theorem PG:Rows.fnExactDeskOkRow.wfByText (OpenSpec.ofChange Rows.fnExactDeskOkSpec)=true:=by kernel_rfl
theorem PU : Tryz.prog.mainIs = some ((true, "e65d4345de9ba8f0a70f1efa7cdc30cd65a8e23288ae680d224a034d030917e2").1, (true, "e65d4345de9ba8f0a70f1efa7cdc30cd65a8e23288ae680d224a034d030917e2").2.toList) := by kernel_rfl
theorem Pt:true=Tryz.prog.looks []:=by kernel_rfl
theorem O0:false=Rows.fnExactDeskOkRow.goesBy Tryz.prog:=by kernel_rfl
theorem BX (os:Os) (started:os.Started) (H:Type) (enc:TypeId×Value->H) :
 ReturnsInHanded {} Tryz.checked os 5 .any (fun w args=>(Rows.fnExactDeskOkSpec.pre enc Tryz.prog Tryz.f5 Rows.fnExactDeskOkRow.domain false w args/\laidMetH Tryz.prog Rows.fnExactDeskOkRow.laid w)/\sizedMet enc Tryz.prog Tryz.f5 (OpenSpec.ofChange Rows.fnExactDeskOkSpec) false w args) (Rows.fnExactDeskOkSpec.post enc Tryz.prog Tryz.f5 false true false false):=by
 refine Bb (C:=Tryz.checked) (X:=fun w _=>laidMetH Tryz.prog Rows.fnExactDeskOkRow.laid w) (fun _ _ _ hh h=>h.of_heap hh) Tryz.own started (by kernel_rfl) Tryz.func5
  (ChangeSpec.witness_shaped (enc:=enc) (C:=Tryz.checked) (os:=os) (X:=fun w _=>laidMetH Tryz.prog Rows.fnExactDeskOkRow.laid w) false (World.laidAll Tryz.prog os Rows.fnExactDeskOkRow.laid) #[.agg #[.slice none 0 0,.int .i64 0,.slice none 0 0,.int .i64 0,.int .i64 0,.slice none 0 0]] 8 (World.laidAll_os _ _ _) (BY os) (by kernel_rfl) (by kernel_rfl) (by kernel_rfl) (LP os _)) ?_
 intro W base args ds gs before hval hW hwt hL hsh;have hW':=hW;obtain ⟨p,q,hA,hV,_,_,_⟩:=hW';obtain ⟨rfl,rfl⟩:gs=[]/\q=[]:=by
  cases gs with
  | nil=>exact ⟨rfl,hV⟩
  | cons _ _=>exact hV.elim
 have hwt2:∀ m∈DataW.weightsEach Tryz.prog Tryz.f5.params.toList ds,m<=aW:=fun m hm=>by
  have e:Rows.fnExactDeskOkSpec.plain.varTypes Tryz.checked.prog=[]:=rfl;rw [e,List.append_nil,List.append_nil] at hwt;have:=List.all_eq_true.1 hwt m hm;have h2:m<=reachBytes:=by simpa using this
  exact Nat.le_trans h2 (by decide)
 obtain ⟨x,hx,hbg⟩:=A3 (E:=E0) (P:=Tryz.prog) hT Tryz.f5.params.toList s5.ps (by kernel_rfl) args.toList ds p 0 hA (fun j t v ht hv=>hval j t v (by rw [<- Array.getElem?_toList]; exact ht) (by rw [<- Array.getElem?_toList]; exact hv)) hwt2;refine (E7 (P:=Tryz.prog) (c:=ah Tryz.f5) Za Tryz.func5 (by kernel_rfl) (by kernel_rfl) (Wc hsh hL) hx ⟨_,CW x.1 (Ft x.1 hbg.1) (F2 x.1 hbg.1),fun _ _ _ _ hr=>EU hr⟩).mono fun e W' ⟨he,hb⟩=>⟨_,he,?_⟩
 have hlen:ds.length=1:=Ak _ _ _ _ hA;obtain ⟨d1,rfl⟩:∃ d1,ds=[d1]:=by
  match ds,hlen with
  | [d1],_=>exact ⟨d1,rfl⟩
 exact I2 (rt:=4) Tryz.laidOut rfl (by kernel_rfl) (by kernel_rfl) (by decide +kernel) hW hb rfl
theorem KO:Rows.FnExactDeskOkSaid :=
 OpenClaim.holds_of_wide 5 Tryz.f5 rfl rfl rfl rfl rfl rfl rfl ⟨rfl,rfl,rfl,rfl,rfl⟩ rfl rfl rfl rfl rfl (by kernel_rfl) Tryz.func5 NX
  (of_decide_eq_true (by kernel_rfl)) (by unfold Func.isWrapper; first | (rw [if_pos (by decide +kernel)]; kernel_rfl) | (rw [if_neg (by decide +kernel)]; exact ⟨rfl,rfl⟩))
  (fun os started H enc _=>BX os started H enc)
theorem dok_holds:Rows.FnExactDeskOkCardSaid :=
 Claim7.holds_tied_plain_at .later [] [.data, .data, .data, .data, .sentinel, .sentinel, .pinned] true (true, "e65d4345de9ba8f0a70f1efa7cdc30cd65a8e23288ae680d224a034d030917e2") true
  KO (fun _ h=>by cases h) PG (fun _ h=>by cases h) fnExactDeskOk_row_tie rfl ⟨rfl,rfl⟩ PU rfl
  (fun f fn hf hfn=>by
    obtain rfl : f = 5 := Option.some.inj ((show Tryz.prog.funcNamed "loop.example/g00735/laws.FnExactDeskOk" = some 5 by kernel_rfl).symm.trans hf) |>.symm
    obtain rfl:fn=Tryz.f5:=(Option.some.inj (Tryz.func5.symm.trans hfn)).symm;exact ⟨Pt,fun j t ht=>by
     have hm:t∈[41]:=by
      have e:Tryz.f5.params.toList=[41]:=by kernel_rfl
      rw [<- e]; exact Array.mem_toList_iff.2 (Array.mem_of_getElem? ht)
     have hall:([41].all fun u=> !Tryz.prog.wantsStandIn u)=true:=by kernel_rfl
     exact (show Tryz.prog.wantsStandIn t=false by simpa using List.all_eq_true.1 hall t hm)⟩)
  O0
end Go.Proofs.YtpgkhfcgbjangaaGreatDoor
#print axioms Go.Proofs.YtpgkhfcgbjangaaGreatDoor.dok_holds
