/- The law FnExactWaitsOn answers true for every input, and its arguments read as they did. No conditions beyond the statement. -/
import Derived.Test.YtpgkhfcgbjangaaGreatDoorP4
import Derived.Lay
import Derived.Test.YtpgkhfcgbjangaaGreatDoorFw4
import Derived.Test.YtpgkhfcgbjangaaGreatDoorRows
import Derived.Test.YtpgkhfcgbjangaaGreatDoorCards
import Derived.Test.YtpgkhfcgbjangaaGreatDoorTie
set_option maxRecDepth 100000
set_option maxHeartbeats 4000000
namespace Go.Av
theorem ER (x:((List UInt8)×Int×Int×Unit)) (h:s7 [.str,.int .i64,.int .i64] x):vY x:=h.1
theorem E9 (x:((List UInt8)×(List UInt8)×(List R5)×Unit)) (h:s7 [.str,.str,.sl 5 fy] x):uK x:=⟨h.1,h.2.1,h.2.2.1.1⟩
theorem FC (x:((List UInt8)×Int×Int×Int×Int×(List dj)×Int×Int×(List R3)×(List R3)×(List di)×Unit)) (h:s7 [.str,.int .i64,.int .i64,.int .i64,.int .i64,.sl 157 dG,.int .i64,.int .i64,.sl 3 aK,.sl 3 aK,.sl 160 cT] x):v8 x:=⟨h.1,⟨h.2.2.2.2.2.1.1,fun y hy=>ER y (h.2.2.2.2.2.1.2 y hy)⟩,⟨h.2.2.2.2.2.2.2.2.1.1,h.2.2.2.2.2.2.2.2.2.1.1⟩,⟨h.2.2.2.2.2.2.2.2.2.2.1.1,fun y hy=>E9 y (h.2.2.2.2.2.2.2.2.2.2.1.2 y hy)⟩⟩
theorem Bh (x:(Int×(List dp)×Unit)) (h:s7 [.int .i64,.sl 92 bw] x):mg x:=⟨h.2.1.1,fun y hy=>FC y (h.2.1.2 y hy)⟩
theorem FK (x:((List R5)×Int×(List R3)×Int×Int×Int×Int×Int×(List R5)×Unit)) (h:s7 [.sl 5 fy,.int .i64,.sl 3 aK,.int .i64,.int .i64,.int .i64,.int .i64,.int .i64,.sl 5 fy] x):uT x:=⟨h.1.1,h.2.2.1.1,h.2.2.2.2.2.2.2.2.1.1⟩
theorem BI (x:((List sG)×Int×Int×(List qP)×Unit)) (h:s7 [.sl 84 nh,.int .i64,.int .i64,.sl 86 gG] x):yQ x:=⟨⟨h.1.1,fun y hy=>Bh y (h.1.2 y hy)⟩,⟨h.2.2.2.1.1,fun y hy=>FK y (h.2.2.2.1.2 y hy)⟩⟩
theorem EI (x:((List UInt8)×(List UInt8)×(List R5)×Unit)) (h:s7 [.str,.str,.sl 5 fy] x):G4 x:=(fun y hy=>(h.2.2.1.2 y hy).1)
theorem Fk (x:((List UInt8)×Int×Int×Int×Int×(List dj)×Int×Int×(List R3)×(List R3)×(List di)×Unit)) (h:s7 [.str,.int .i64,.int .i64,.int .i64,.int .i64,.sl 157 dG,.int .i64,.int .i64,.sl 3 aK,.sl 3 aK,.sl 160 cT] x):Hc x:=(fun y hy=>EI y (h.2.2.2.2.2.2.2.2.2.2.1.2 y hy))
theorem Af (x:(Int×(List dp)×Unit)) (h:s7 [.int .i64,.sl 92 bw] x):Am x:=(fun y hy=>Fk y (h.2.1.2 y hy))
theorem Ff (x:((List R5)×Int×(List R3)×Int×Int×Int×Int×Int×(List R5)×Unit)) (h:s7 [.sl 5 fy,.int .i64,.sl 3 aK,.int .i64,.int .i64,.int .i64,.int .i64,.int .i64,.sl 5 fy] x):Cr x:=⟨(fun y hy=>(h.1.2 y hy).1),(fun y hy=>(h.2.2.2.2.2.2.2.2.1.2 y hy).1)⟩
theorem CO (x:((List sG)×Int×Int×(List qP)×Unit)) (h:s7 [.sl 84 nh,.int .i64,.int .i64,.sl 86 gG] x):zi x:=⟨(fun y hy=>Af y (h.1.2 y hy)),(fun y hy=>Ff y (h.2.2.2.1.2 y hy))⟩
end Go.Av
namespace Go.Proofs.YtpgkhfcgbjangaaGreatDoor
open Go.ChangeShapes Go.WideShapes Go.ChangeAt Go.RowKit Go.Av
theorem Tryz.own:ownKnob Tryz.prog.godebug=none:=by kernel_rfl
theorem Tryz.laidOut:laidOutB Tryz.prog=true:=by kernel_rfl
theorem Qb : Tryz.prog.globalNamed "internal/strconv.uint64pow10" = some 5 := by kernel_rfl
theorem DY : "*" ++ "errors.errorString" = "*errors.errorString" := by decide
theorem Jo (u : TypeId) (h : Tryz.prog.typeName? 3 u = some "*errors.errorString") : u = 286 :=
 typeName_ptr_named (nm := "errors.errorString") (by rw [DY]; kernel_rfl) (by kernel_rfl) (by decide) u (by rw [DY]; exact h)
theorem pd : Tryz.prog.globalNamed "strconv.ErrSyntax" = some 0 := by kernel_rfl
theorem rf : Tryz.prog.globalNamed "strconv.ErrRange" = some 1 := by kernel_rfl
theorem Vf {W:World} (hsh:W.ShapedOpen Tryz.prog) (h:laidMetH Tryz.prog Rows.fnExactWaitsOnRow.laid W):Gl Tryz.prog W (fx W):=by
 rw [MakeChecks.laidMetH_plain _ _ _ (by kernel_rfl)] at h
 have e : Rows.fnExactWaitsOnRow.laid = [("math/bits.deBruijn32tab", Rows.laid_math_bits_deBruijn32tab), ("math/bits.deBruijn64tab", Rows.laid_math_bits_deBruijn64tab), ("internal/strconv.uint64pow10", Lib.tabData .u64 Lib.pow10Tab), ("unicode/utf8.acceptRanges", Rows.laid_unicode_utf8_acceptRanges), ("strconv.ErrRange", Rows.laid_strconv_ErrRange), ("strconv.ErrSyntax", Rows.laid_strconv_ErrSyntax), ("unicode/utf8.first", Rows.laid_unicode_utf8_first)] := by kernel_rfl
 rw [e] at h;exact MD Yi ⟨.inr ⟨_,Qb,K6 Qb (Lib.tabIs_of_head (t:=301) (e:=228) (n:=20) Qb (by kernel_rfl) (by kernel_rfl) (by kernel_rfl) (by kernel_rfl) (by kernel_rfl) h.tail.tail)⟩,.inr ⟨4,by kernel_rfl,Lp (t:=3) (zero := #[.int .i64 0]) hsh (by decide +kernel) (by kernel_rfl) rfl (by kernel_rfl) (by kernel_rfl) (by kernel_rfl)⟩,.inr ⟨_,pd,HT (X:=fun _=>True) pd ((laid_sentinel h.tail.tail.tail.tail.tail pd (by kernel_rfl) Tryz.underlying235 Jo Tryz.underlying286 Tryz.underlying288 rfl rfl Tryz.underlying9 (by kernel_rfl) (by kernel_rfl)).imp fun _ h=>⟨h.choose_spec.1,trivial⟩)⟩,.inr ⟨_,rf,HT (X:=fun _=>True) rf ((laid_sentinel h.tail.tail.tail.tail rf (by kernel_rfl) Tryz.underlying235 Jo Tryz.underlying286 Tryz.underlying288 rfl rfl Tryz.underlying9 (by kernel_rfl) (by kernel_rfl)).imp fun _ h=>⟨h.choose_spec.1,trivial⟩)⟩,trivial⟩
theorem L3 (os:Os) (args:Array Value):laidMetH Tryz.prog Rows.fnExactWaitsOnRow.laid ((World.laidAll Tryz.prog os Rows.fnExactWaitsOnRow.laid).forCall (fun _ _=>0) ⟨#[],args,[]⟩).memory :=
 by rw [MakeChecks.laidMetH_plain _ _ _ (by kernel_rfl)]; exact laidMet_laidAll _ (by kernel_rfl) (by kernel_rfl)
theorem BN (os:Os):(World.laidAll Tryz.prog os Rows.fnExactWaitsOnRow.laid).Shaped Tryz.prog:=World.shaped_of_ZipB (by kernel_rfl) (by kernel_rfl)
theorem OL:Tryz.prog.inPlace 4=Rows.fnExactWaitsOnRow.inPlace:=by kernel_rfl
theorem P0:Tryz.prog.unfollowed 4=Rows.fnExactWaitsOnRow.unfollowed:=by kernel_rfl
theorem OO:Tryz.prog.recurses 4=Rows.fnExactWaitsOnRow.recurses:=by kernel_rfl
theorem PO:Tryz.prog.varsNamed 4=Rows.fnExactWaitsOnRow.named:=by kernel_rfl
theorem N2:joinedFacts Tryz.prog 4 Tryz.f4 Rows.fnExactWaitsOnSpec Rows.fnExactWaitsOnRow=true:=by unfold joinedFacts;rw [OL,P0,OO,PO];kernel_rfl
theorem PF:Rows.fnExactWaitsOnRow.wfByText (OpenSpec.ofChange Rows.fnExactWaitsOnSpec)=true:=by kernel_rfl
theorem OE : Tryz.prog.mainIs = some ((true, "e65d4345de9ba8f0a70f1efa7cdc30cd65a8e23288ae680d224a034d030917e2").1, (true, "e65d4345de9ba8f0a70f1efa7cdc30cd65a8e23288ae680d224a034d030917e2").2.toList) := by kernel_rfl
theorem Pd:true=Tryz.prog.looks []:=by kernel_rfl
theorem OP:false=Rows.fnExactWaitsOnRow.goesBy Tryz.prog:=by kernel_rfl
theorem CA (os:Os) (started:os.Started) (H:Type) (enc:TypeId×Value->H) :
 ReturnsInHanded {} Tryz.checked os 4 .any (fun w args=>(Rows.fnExactWaitsOnSpec.pre enc Tryz.prog Tryz.f4 Rows.fnExactWaitsOnRow.domain false w args/\laidMetH Tryz.prog Rows.fnExactWaitsOnRow.laid w)/\sizedMet enc Tryz.prog Tryz.f4 (OpenSpec.ofChange Rows.fnExactWaitsOnSpec) false w args) (Rows.fnExactWaitsOnSpec.post enc Tryz.prog Tryz.f4 false true false false):=by
 refine AK (C:=Tryz.checked) (X:=fun w _=>laidMetH Tryz.prog Rows.fnExactWaitsOnRow.laid w) (fun _ _ _ hh h=>h.of_heap hh) Tryz.own started (by kernel_rfl) Tryz.func4
  (ChangeSpec.witness_shaped (enc:=enc) (C:=Tryz.checked) (os:=os) (X:=fun w _=>laidMetH Tryz.prog Rows.fnExactWaitsOnRow.laid w) false (World.laidAll Tryz.prog os Rows.fnExactWaitsOnRow.laid) #[.agg #[.slice none 0 0,.int .i64 0,.int .i64 0,.slice none 0 0],.int .i64 0] 8 (World.laidAll_os _ _ _) (BN os) (by kernel_rfl) (by kernel_rfl) (by kernel_rfl) (L3 os _)) ?_
 intro W base args ds gs before hval hW hwt hL hsh;have hW':=hW;obtain ⟨p,q,hA,hV,_,_,_⟩:=hW';obtain ⟨rfl,rfl⟩:gs=[]/\q=[]:=by
  cases gs with
  | nil=>exact ⟨rfl,hV⟩
  | cons _ _=>exact hV.elim
 have hwt2:∀ m∈DataW.weightsEach Tryz.prog Tryz.f4.params.toList ds,m<=aX:=fun m hm=>by
  have e:Rows.fnExactWaitsOnSpec.plain.varTypes Tryz.checked.prog=[]:=rfl;rw [e,List.append_nil,List.append_nil] at hwt;have:=List.all_eq_true.1 hwt m hm;have h2:m<=reachBytes:=by simpa using this
  exact Nat.le_trans h2 (by decide)
 obtain ⟨x,hx,hbg⟩:=A0 (E:=E0) (P:=Tryz.prog) hT Tryz.f4.params.toList s4.ps (by kernel_rfl) args.toList ds p 0 hA (fun j t v ht hv=>hval j t v (by rw [<- Array.getElem?_toList]; exact ht) (by rw [<- Array.getElem?_toList]; exact hv)) hwt2;refine (Fj (P:=Tryz.prog) (c:=ah Tryz.f4) Yp Tryz.func4 (by kernel_rfl) (by kernel_rfl) (Vf hsh hL) hx ⟨_,AA x.1 x.2.1.1 (BI x.1 hbg.1) (CO x.1 hbg.1),fun _ _ _ _ hr=>FL hr⟩).mono fun e W' ⟨he,hb⟩=>⟨_,he,?_⟩
 have hlen:ds.length=2:=A6 _ _ _ _ hA;obtain ⟨d1,d2,rfl⟩:∃ d1 d2,ds=[d1,d2]:=by
  match ds,hlen with
  | [d1,d2],_=>exact ⟨d1,d2,rfl⟩
 exact Is (rt:=4) Tryz.laidOut rfl (by kernel_rfl) (by kernel_rfl) (by decide +kernel) hW hb rfl
theorem K0:Rows.FnExactWaitsOnSaid :=
 OpenClaim.holds_of_wide 4 Tryz.f4 rfl rfl rfl rfl rfl rfl rfl ⟨rfl,rfl,rfl,rfl,rfl⟩ rfl rfl rfl rfl rfl (by kernel_rfl) Tryz.func4 N2
  (of_decide_eq_true (by kernel_rfl)) (by unfold Func.isWrapper; first | (rw [if_pos (by decide +kernel)]; kernel_rfl) | (rw [if_neg (by decide +kernel)]; exact ⟨rfl,rfl⟩))
  (fun os started H enc _=>CA os started H enc)
theorem won_holds:Rows.FnExactWaitsOnCardSaid :=
 Claim7.holds_tied_plain_at .later [] [.data, .data, .data, .data, .sentinel, .sentinel, .pinned] true (true, "e65d4345de9ba8f0a70f1efa7cdc30cd65a8e23288ae680d224a034d030917e2") true
  K0 (fun _ h=>by cases h) PF (fun _ h=>by cases h) fnExactWaitsOn_row_tie rfl ⟨rfl,rfl⟩ OE rfl
  (fun f fn hf hfn=>by
    obtain rfl : f = 4 := Option.some.inj ((show Tryz.prog.funcNamed "loop.example/g00735/laws.FnExactWaitsOn" = some 4 by kernel_rfl).symm.trans hf) |>.symm
    obtain rfl:fn=Tryz.f4:=(Option.some.inj (Tryz.func4.symm.trans hfn)).symm;exact ⟨Pd,fun j t ht=>by
     have hm:t∈[25,3]:=by
      have e:Tryz.f4.params.toList=[25,3]:=by kernel_rfl
      rw [<- e]; exact Array.mem_toList_iff.2 (Array.mem_of_getElem? ht)
     have hall:([25,3].all fun u=> !Tryz.prog.wantsStandIn u)=true:=by kernel_rfl
     exact (show Tryz.prog.wantsStandIn t=false by simpa using List.all_eq_true.1 hall t hm)⟩)
  OP
end Go.Proofs.YtpgkhfcgbjangaaGreatDoor
#print axioms Go.Proofs.YtpgkhfcgbjangaaGreatDoor.won_holds
