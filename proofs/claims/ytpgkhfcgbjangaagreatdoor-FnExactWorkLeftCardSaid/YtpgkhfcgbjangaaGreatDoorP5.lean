/- The law FnExactWorkLeft answers true for every input, and its arguments read as they did. No conditions beyond the statement. -/
import Derived.Test.YtpgkhfcgbjangaaGreatDoorP4
import Derived.Lay
import Derived.Test.YtpgkhfcgbjangaaGreatDoorFw4
import Derived.Test.YtpgkhfcgbjangaaGreatDoorRows
import Derived.Test.YtpgkhfcgbjangaaGreatDoorCards
import Derived.Test.YtpgkhfcgbjangaaGreatDoorTie
set_option maxRecDepth 100000
set_option maxHeartbeats 4000000
namespace Go.Av
theorem Ew (x:((List UInt8)×Int×Int×Unit)) (h:sY [.str,.int .i64,.int .i64] x):vI x:=h.1
theorem E8 (x:((List UInt8)×(List UInt8)×(List R5)×Unit)) (h:sY [.str,.str,.sl 5 fz] x):tD x:=⟨h.1,h.2.1,h.2.2.1.1⟩
theorem EB (x:((List UInt8)×Int×Int×Int×Int×(List dj)×Int×Int×(List R3)×(List R3)×(List dh)×Unit)) (h:sY [.str,.int .i64,.int .i64,.int .i64,.int .i64,.sl 157 dH,.int .i64,.int .i64,.sl 3 aK,.sl 3 aK,.sl 160 cV] x):ua x:=⟨h.1,⟨h.2.2.2.2.2.1.1,fun y hy=>Ew y (h.2.2.2.2.2.1.2 y hy)⟩,⟨h.2.2.2.2.2.2.2.2.1.1,h.2.2.2.2.2.2.2.2.2.1.1⟩,⟨h.2.2.2.2.2.2.2.2.2.2.1.1,fun y hy=>E8 y (h.2.2.2.2.2.2.2.2.2.2.1.2 y hy)⟩⟩
theorem zL (x:(Int×(List dn)×Unit)) (h:sY [.int .i64,.sl 92 bw] x):lU x:=⟨h.2.1.1,fun y hy=>EB y (h.2.1.2 y hy)⟩
theorem FQ (x:((List R5)×Int×(List R3)×Int×Int×Int×Int×Int×(List R5)×Unit)) (h:sY [.sl 5 fz,.int .i64,.sl 3 aK,.int .i64,.int .i64,.int .i64,.int .i64,.int .i64,.sl 5 fz] x):vg x:=⟨h.1.1,h.2.2.1.1,h.2.2.2.2.2.2.2.2.1.1⟩
theorem BY (x:((List sH)×Int×Int×(List rn)×Unit)) (h:sY [.sl 84 nc,.int .i64,.int .i64,.sl 86 gG] x):zk x:=⟨⟨h.1.1,fun y hy=>zL y (h.1.2 y hy)⟩,⟨h.2.2.2.1.1,fun y hy=>FQ y (h.2.2.2.1.2 y hy)⟩⟩
theorem Ec (x:((List UInt8)×(List UInt8)×(List R5)×Unit)) (h:sY [.str,.str,.sl 5 fz] x):HZ x:=(fun y hy=>(h.2.2.1.2 y hy).1)
theorem E7 (x:((List UInt8)×Int×Int×Int×Int×(List dj)×Int×Int×(List R3)×(List R3)×(List dh)×Unit)) (h:sY [.str,.int .i64,.int .i64,.int .i64,.int .i64,.sl 157 dH,.int .i64,.int .i64,.sl 3 aK,.sl 3 aK,.sl 160 cV] x):IB x:=(fun y hy=>Ec y (h.2.2.2.2.2.2.2.2.2.2.1.2 y hy))
theorem Br (x:(Int×(List dn)×Unit)) (h:sY [.int .i64,.sl 92 bw] x):AF x:=(fun y hy=>E7 y (h.2.1.2 y hy))
theorem FU (x:((List R5)×Int×(List R3)×Int×Int×Int×Int×Int×(List R5)×Unit)) (h:sY [.sl 5 fz,.int .i64,.sl 3 aK,.int .i64,.int .i64,.int .i64,.int .i64,.int .i64,.sl 5 fz] x):BC x:=⟨(fun y hy=>(h.1.2 y hy).1),(fun y hy=>(h.2.2.2.2.2.2.2.2.1.2 y hy).1)⟩
theorem CV (x:((List sH)×Int×Int×(List rn)×Unit)) (h:sY [.sl 84 nc,.int .i64,.int .i64,.sl 86 gG] x):zC x:=⟨(fun y hy=>Br y (h.1.2 y hy)),(fun y hy=>FU y (h.2.2.2.1.2 y hy))⟩
end Go.Av
namespace Go.Proofs.YtpgkhfcgbjangaaGreatDoor
open Go.ChangeShapes Go.WideShapes Go.ChangeAt Go.RowKit Go.Av
theorem Tryz.own:ownKnob Tryz.prog.godebug=none:=by kernel_rfl
theorem Tryz.laidOut:laidOutB Tryz.prog=true:=by kernel_rfl
theorem PS : Tryz.prog.globalNamed "internal/strconv.uint64pow10" = some 5 := by kernel_rfl
theorem Dr : "*" ++ "errors.errorString" = "*errors.errorString" := by decide
theorem Jc (u : TypeId) (h : Tryz.prog.typeName? 3 u = some "*errors.errorString") : u = 286 :=
 typeName_ptr_named (nm := "errors.errorString") (by rw [Dr]; kernel_rfl) (by kernel_rfl) (by decide) u (by rw [Dr]; exact h)
theorem ny : Tryz.prog.globalNamed "strconv.ErrSyntax" = some 0 := by kernel_rfl
theorem q9 : Tryz.prog.globalNamed "strconv.ErrRange" = some 1 := by kernel_rfl
theorem Wc {W:World} (hsh:W.ShapedOpen Tryz.prog) (h:laidMetH Tryz.prog Rows.fnExactWorkLeftRow.laid W):Gl Tryz.prog W (fy W):=by
 rw [MakeChecks.laidMetH_plain _ _ _ (by kernel_rfl)] at h
 have e : Rows.fnExactWorkLeftRow.laid = [("math/bits.deBruijn32tab", Rows.laid_math_bits_deBruijn32tab), ("math/bits.deBruijn64tab", Rows.laid_math_bits_deBruijn64tab), ("internal/strconv.uint64pow10", Lib.tabData .u64 Lib.pow10Tab), ("unicode/utf8.acceptRanges", Rows.laid_unicode_utf8_acceptRanges), ("strconv.ErrRange", Rows.laid_strconv_ErrRange), ("strconv.ErrSyntax", Rows.laid_strconv_ErrSyntax), ("unicode/utf8.first", Rows.laid_unicode_utf8_first)] := by kernel_rfl
 rw [e] at h;exact Nz Yg ⟨.inr ⟨_,PS,J5 PS (Lib.tabIs_of_head (t:=301) (e:=228) (n:=20) PS (by kernel_rfl) (by kernel_rfl) (by kernel_rfl) (by kernel_rfl) (by kernel_rfl) h.tail.tail)⟩,.inr ⟨4,by kernel_rfl,Lx (t:=3) (zero := #[.int .i64 0]) hsh (by decide +kernel) (by kernel_rfl) rfl (by kernel_rfl) (by kernel_rfl) (by kernel_rfl)⟩,.inr ⟨_,ny,Gk (X:=fun _=>True) ny ((laid_sentinel h.tail.tail.tail.tail.tail ny (by kernel_rfl) Tryz.underlying235 Jc Tryz.underlying286 Tryz.underlying288 rfl rfl Tryz.underlying9 (by kernel_rfl) (by kernel_rfl)).imp fun _ h=>⟨h.choose_spec.1,trivial⟩)⟩,.inr ⟨_,q9,Gk (X:=fun _=>True) q9 ((laid_sentinel h.tail.tail.tail.tail q9 (by kernel_rfl) Tryz.underlying235 Jc Tryz.underlying286 Tryz.underlying288 rfl rfl Tryz.underlying9 (by kernel_rfl) (by kernel_rfl)).imp fun _ h=>⟨h.choose_spec.1,trivial⟩)⟩,trivial⟩
theorem K2 (os:Os) (args:Array Value):laidMetH Tryz.prog Rows.fnExactWorkLeftRow.laid ((World.laidAll Tryz.prog os Rows.fnExactWorkLeftRow.laid).forCall (fun _ _=>0) ⟨#[],args,[]⟩).memory :=
 by rw [MakeChecks.laidMetH_plain _ _ _ (by kernel_rfl)]; exact laidMet_laidAll _ (by kernel_rfl) (by kernel_rfl)
theorem CQ (os:Os):(World.laidAll Tryz.prog os Rows.fnExactWorkLeftRow.laid).Shaped Tryz.prog:=World.shaped_of_ZipB (by kernel_rfl) (by kernel_rfl)
theorem Ps:Tryz.prog.inPlace 6=Rows.fnExactWorkLeftRow.inPlace:=by kernel_rfl
theorem Pu:Tryz.prog.unfollowed 6=Rows.fnExactWorkLeftRow.unfollowed:=by kernel_rfl
theorem O6:Tryz.prog.recurses 6=Rows.fnExactWorkLeftRow.recurses:=by kernel_rfl
theorem Pn:Tryz.prog.varsNamed 6=Rows.fnExactWorkLeftRow.named:=by kernel_rfl
theorem Pp:joinedFacts Tryz.prog 6 Tryz.f6 Rows.fnExactWorkLeftSpec Rows.fnExactWorkLeftRow=true:=by unfold joinedFacts;rw [Ps,Pu,O6,Pn];kernel_rfl
theorem PW:Rows.fnExactWorkLeftRow.wfByText (OpenSpec.ofChange Rows.fnExactWorkLeftSpec)=true:=by kernel_rfl
theorem OY : Tryz.prog.mainIs = some ((true, "e65d4345de9ba8f0a70f1efa7cdc30cd65a8e23288ae680d224a034d030917e2").1, (true, "e65d4345de9ba8f0a70f1efa7cdc30cd65a8e23288ae680d224a034d030917e2").2.toList) := by kernel_rfl
theorem Ph:true=Tryz.prog.looks []:=by kernel_rfl
theorem PE:false=Rows.fnExactWorkLeftRow.goesBy Tryz.prog:=by kernel_rfl
theorem B7 (os:Os) (started:os.Started) (H:Type) (enc:TypeId×Value->H) :
 ReturnsInHanded {} Tryz.checked os 6 .any (fun w args=>(Rows.fnExactWorkLeftSpec.pre enc Tryz.prog Tryz.f6 Rows.fnExactWorkLeftRow.domain false w args/\laidMetH Tryz.prog Rows.fnExactWorkLeftRow.laid w)/\sizedMet enc Tryz.prog Tryz.f6 (OpenSpec.ofChange Rows.fnExactWorkLeftSpec) false w args) (Rows.fnExactWorkLeftSpec.post enc Tryz.prog Tryz.f6 false true false false):=by
 refine Bu (C:=Tryz.checked) (X:=fun w _=>laidMetH Tryz.prog Rows.fnExactWorkLeftRow.laid w) (fun _ _ _ hh h=>h.of_heap hh) Tryz.own started (by kernel_rfl) Tryz.func6
  (ChangeSpec.witness_shaped (enc:=enc) (C:=Tryz.checked) (os:=os) (X:=fun w _=>laidMetH Tryz.prog Rows.fnExactWorkLeftRow.laid w) false (World.laidAll Tryz.prog os Rows.fnExactWorkLeftRow.laid) #[.agg #[.slice none 0 0,.int .i64 0,.int .i64 0,.slice none 0 0]] 8 (World.laidAll_os _ _ _) (CQ os) (by kernel_rfl) (by kernel_rfl) (by kernel_rfl) (K2 os _)) ?_
 intro W base args ds gs before hval hW hwt hL hsh;have hW':=hW;obtain ⟨p,q,hA,hV,_,_,_⟩:=hW';obtain ⟨rfl,rfl⟩:gs=[]/\q=[]:=by
  cases gs with
  | nil=>exact ⟨rfl,hV⟩
  | cons _ _=>exact hV.elim
 have hwt2:∀ m∈DataW.weightsEach Tryz.prog Tryz.f6.params.toList ds,m<=aX:=fun m hm=>by
  have e:Rows.fnExactWorkLeftSpec.plain.varTypes Tryz.checked.prog=[]:=rfl;rw [e,List.append_nil,List.append_nil] at hwt;have:=List.all_eq_true.1 hwt m hm;have h2:m<=reachBytes:=by simpa using this
  exact Nat.le_trans h2 (by decide)
 obtain ⟨x,hx,hbg⟩:=AS (E:=E0) (P:=Tryz.prog) hT Tryz.f6.params.toList s6.ps (by kernel_rfl) args.toList ds p 0 hA (fun j t v ht hv=>hval j t v (by rw [<- Array.getElem?_toList]; exact ht) (by rw [<- Array.getElem?_toList]; exact hv)) hwt2;refine (Ej (P:=Tryz.prog) (c:=ah Tryz.f6) Yu Tryz.func6 (by kernel_rfl) (by kernel_rfl) (Wc hsh hL) hx ⟨_,yN x.1 (BY x.1 hbg.1) (CV x.1 hbg.1),fun _ _ _ _ hr=>Ff hr⟩).mono fun e W' ⟨he,hb⟩=>⟨_,he,?_⟩
 have hlen:ds.length=1:=AK _ _ _ _ hA;obtain ⟨d1,rfl⟩:∃ d1,ds=[d1]:=by
  match ds,hlen with
  | [d1],_=>exact ⟨d1,rfl⟩
 exact G0 (rt:=4) Tryz.laidOut rfl (by kernel_rfl) (by kernel_rfl) (by decide +kernel) hW hb rfl
theorem JK:Rows.FnExactWorkLeftSaid :=
 OpenClaim.holds_of_wide 6 Tryz.f6 rfl rfl rfl rfl rfl rfl rfl ⟨rfl,rfl,rfl,rfl,rfl⟩ rfl rfl rfl rfl rfl (by kernel_rfl) Tryz.func6 Pp
  (of_decide_eq_true (by kernel_rfl)) (by unfold Func.isWrapper; first | (rw [if_pos (by decide +kernel)]; kernel_rfl) | (rw [if_neg (by decide +kernel)]; exact ⟨rfl,rfl⟩))
  (fun os started H enc _=>B7 os started H enc)
theorem wle_holds:Rows.FnExactWorkLeftCardSaid :=
 Claim7.holds_tied_plain_at .later [] [.data, .data, .data, .data, .sentinel, .sentinel, .pinned] true (true, "e65d4345de9ba8f0a70f1efa7cdc30cd65a8e23288ae680d224a034d030917e2") true
  JK (fun _ h=>by cases h) PW (fun _ h=>by cases h) fnExactWorkLeft_row_tie rfl ⟨rfl,rfl⟩ OY rfl
  (fun f fn hf hfn=>by
    obtain rfl : f = 6 := Option.some.inj ((show Tryz.prog.funcNamed "loop.example/g00735/laws.FnExactWorkLeft" = some 6 by kernel_rfl).symm.trans hf) |>.symm
    obtain rfl:fn=Tryz.f6:=(Option.some.inj (Tryz.func6.symm.trans hfn)).symm;exact ⟨Ph,fun j t ht=>by
     have hm:t∈[25]:=by
      have e:Tryz.f6.params.toList=[25]:=by kernel_rfl
      rw [<- e]; exact Array.mem_toList_iff.2 (Array.mem_of_getElem? ht)
     have hall:([25].all fun u=> !Tryz.prog.wantsStandIn u)=true:=by kernel_rfl
     exact (show Tryz.prog.wantsStandIn t=false by simpa using List.all_eq_true.1 hall t hm)⟩)
  PE
end Go.Proofs.YtpgkhfcgbjangaaGreatDoor
#print axioms Go.Proofs.YtpgkhfcgbjangaaGreatDoor.wle_holds
