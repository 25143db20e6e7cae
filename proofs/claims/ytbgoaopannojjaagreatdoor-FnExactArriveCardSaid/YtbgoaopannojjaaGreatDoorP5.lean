/- The law FnExactArrive answers true for every input, and its arguments read as they did. No conditions beyond the statement. -/
import Derived.Test.YtbgoaopannojjaaGreatDoorP4
import Derived.Lay
import Derived.Test.YtbgoaopannojjaaGreatDoorFw4
import Derived.Test.YtbgoaopannojjaaGreatDoorRows
import Derived.Test.YtbgoaopannojjaaGreatDoorCards
import Derived.Test.YtbgoaopannojjaaGreatDoorTie
set_option maxRecDepth 100000
set_option maxHeartbeats 4000000
namespace Go.Av
theorem FF (x:((List UInt8)×Int×Int×Unit)) (h:um [.str,.int .i64,.int .i64] x):vj x:=h.1
theorem Gr (x:((List UInt8)×(List UInt8)×(List R5)×Unit)) (h:um [.str,.str,.sl 5 ub] x):vz x:=⟨h.1,h.2.1,h.2.2.1.1⟩
theorem FY (x:((List UInt8)×Int×Int×Int×Int×(List gw)×Int×Int×(List R3)×(List R3)×(List cu)×Unit)) (h:um [.str,.int .i64,.int .i64,.int .i64,.int .i64,.sl 95 A9,.int .i64,.int .i64,.sl 3 l0,.sl 3 l0,.sl 166 xL] x):v8 x:=⟨h.1,⟨h.2.2.2.2.2.1.1,fun y hy=>FF y (h.2.2.2.2.2.1.2 y hy)⟩,⟨h.2.2.2.2.2.2.2.2.1.1,h.2.2.2.2.2.2.2.2.2.1.1⟩,⟨h.2.2.2.2.2.2.2.2.2.2.1.1,fun y hy=>Gr y (h.2.2.2.2.2.2.2.2.2.2.1.2 y hy)⟩⟩
theorem BF (x:(Int×(List gO)×Unit)) (h:um [.int .i64,.sl 164 uI] x):mP x:=⟨h.2.1.1,fun y hy=>FY y (h.2.1.2 y hy)⟩
theorem F2 (x:((List R5)×Int×(List R3)×Int×Int×Int×Int×Int×(List R5)×Unit)) (h:um [.sl 5 ub,.int .i64,.sl 3 l0,.int .i64,.int .i64,.int .i64,.int .i64,.int .i64,.sl 5 ub] x):xm x:=⟨h.1.1,h.2.2.1.1,h.2.2.2.2.2.2.2.2.1.1⟩
theorem DQ (x:((List pU)×Int×Int×(List pw)×Unit)) (h:um [.sl 81 Hh,.int .i64,.int .i64,.sl 83 GC] x):zq x:=⟨⟨h.1.1,fun y hy=>BF y (h.1.2 y hy)⟩,⟨h.2.2.2.1.1,fun y hy=>F2 y (h.2.2.2.1.2 y hy)⟩⟩
theorem Hb (x:((List UInt8)×(List UInt8)×(List R5)×Unit)) (h:um [.str,.str,.sl 5 ub] x):Je x:=(fun y hy=>(h.2.2.1.2 y hy).1)
theorem F8 (x:((List UInt8)×Int×Int×Int×Int×(List gw)×Int×Int×(List R3)×(List R3)×(List cu)×Unit)) (h:um [.str,.int .i64,.int .i64,.int .i64,.int .i64,.sl 95 A9,.int .i64,.int .i64,.sl 3 l0,.sl 3 l0,.sl 166 xL] x):J6 x:=(fun y hy=>Hb y (h.2.2.2.2.2.2.2.2.2.2.1.2 y hy))
theorem Cj (x:(Int×(List gO)×Unit)) (h:um [.int .i64,.sl 164 uI] x):BK x:=(fun y hy=>F8 y (h.2.1.2 y hy))
theorem GW (x:((List R5)×Int×(List R3)×Int×Int×Int×Int×Int×(List R5)×Unit)) (h:um [.sl 5 ub,.int .i64,.sl 3 l0,.int .i64,.int .i64,.int .i64,.int .i64,.int .i64,.sl 5 ub] x):De x:=⟨(fun y hy=>(h.1.2 y hy).1),(fun y hy=>(h.2.2.2.2.2.2.2.2.1.2 y hy).1)⟩
theorem DY (x:((List pU)×Int×Int×(List pw)×Unit)) (h:um [.sl 81 Hh,.int .i64,.int .i64,.sl 83 GC] x):zn x:=⟨(fun y hy=>Cj y (h.1.2 y hy)),(fun y hy=>GW y (h.2.2.2.1.2 y hy))⟩
end Go.Av
namespace Go.Proofs.YtbgoaopannojjaaGreatDoor
open Go.ChangeShapes Go.WideShapes Go.ChangeAt Go.RowKit Go.Av
theorem Tryz.own:ownKnob Tryz.prog.godebug=none:=by kernel_rfl
theorem Tryz.laidOut:laidOutB Tryz.prog=true:=by kernel_rfl
theorem RS : Tryz.prog.globalNamed "internal/strconv.uint64pow10" = some 0 := by kernel_rfl
theorem Fa : "*" ++ "errors.errorString" = "*errors.errorString" := by decide
theorem K6 (u : TypeId) (h : Tryz.prog.typeName? 3 u = some "*errors.errorString") : u = 305 :=
 typeName_ptr_named (nm := "errors.errorString") (by rw [Fa]; kernel_rfl) (by kernel_rfl) (by decide) u (by rw [Fa]; exact h)
theorem nV : Tryz.prog.globalNamed "strconv.ErrSyntax" = some 3 := by kernel_rfl
theorem sI : Tryz.prog.globalNamed "strconv.ErrRange" = some 4 := by kernel_rfl
theorem aaI {W:World} (hsh:W.ShapedOpen Tryz.prog) (h:laidMetH Tryz.prog Rows.fnExactArriveRow.laid W):Gl Tryz.prog W (fI W):=by
 rw [MakeChecks.laidMetH_plain _ _ _ (by kernel_rfl)] at h
 have e : Rows.fnExactArriveRow.laid = [("math/bits.deBruijn32tab", Rows.laid_math_bits_deBruijn32tab), ("math/bits.deBruijn64tab", Rows.laid_math_bits_deBruijn64tab), ("internal/strconv.uint64pow10", Lib.tabData .u64 Lib.pow10Tab), ("unicode/utf8.acceptRanges", Rows.laid_unicode_utf8_acceptRanges), ("strconv.ErrRange", Rows.laid_strconv_ErrRange), ("strconv.ErrSyntax", Rows.laid_strconv_ErrSyntax), ("unicode/utf8.first", Rows.laid_unicode_utf8_first)] := by kernel_rfl
 rw [e] at h;exact OK gl0 ⟨.inr ⟨_,RS,Mp RS (Lib.tabIs_of_head (t:=259) (e:=212) (n:=20) RS (by kernel_rfl) (by kernel_rfl) (by kernel_rfl) (by kernel_rfl) (by kernel_rfl) h.tail.tail)⟩,.inr ⟨7,by kernel_rfl,L4 (t:=3) (zero := #[.int .i64 0]) hsh (by decide +kernel) (by kernel_rfl) rfl (by kernel_rfl) (by kernel_rfl) (by kernel_rfl)⟩,.inr ⟨_,nV,KR (X:=fun _=>True) nV ((laid_sentinel h.tail.tail.tail.tail.tail nV (by kernel_rfl) Tryz.underlying242 K6 Tryz.underlying305 Tryz.underlying307 rfl rfl Tryz.underlying9 (by kernel_rfl) (by kernel_rfl)).imp fun _ h=>⟨h.choose_spec.1,trivial⟩)⟩,.inr ⟨_,sI,KR (X:=fun _=>True) sI ((laid_sentinel h.tail.tail.tail.tail sI (by kernel_rfl) Tryz.underlying242 K6 Tryz.underlying305 Tryz.underlying307 rfl rfl Tryz.underlying9 (by kernel_rfl) (by kernel_rfl)).imp fun _ h=>⟨h.choose_spec.1,trivial⟩)⟩,trivial⟩
theorem Np (os:Os) (args:Array Value):laidMetH Tryz.prog Rows.fnExactArriveRow.laid ((World.laidAll Tryz.prog os Rows.fnExactArriveRow.laid).forCall (fun _ _=>0) ⟨#[],args,[]⟩).memory :=
 by rw [MakeChecks.laidMetH_plain _ _ _ (by kernel_rfl)]; exact laidMet_laidAll _ (by kernel_rfl) (by kernel_rfl)
theorem CP (os:Os):(World.laidAll Tryz.prog os Rows.fnExactArriveRow.laid).Shaped Tryz.prog:=World.shaped_of_ZipB (by kernel_rfl) (by kernel_rfl)
theorem RW:Tryz.prog.inPlace 5=Rows.fnExactArriveRow.inPlace:=by kernel_rfl
theorem Rz:Tryz.prog.unfollowed 5=Rows.fnExactArriveRow.unfollowed:=by kernel_rfl
theorem QW:Tryz.prog.recurses 5=Rows.fnExactArriveRow.recurses:=by kernel_rfl
theorem Sy:Tryz.prog.varsNamed 5=Rows.fnExactArriveRow.named:=by kernel_rfl
theorem RU:joinedFacts Tryz.prog 5 Tryz.f5 Rows.fnExactArriveSpec Rows.fnExactArriveRow=true:=by unfold joinedFacts;rw [RW,Rz,QW,Sy];kernel_rfl
theorem QT:Rows.fnExactArriveRow.wfByText (OpenSpec.ofChange Rows.fnExactArriveSpec)=true:=by kernel_rfl
theorem Qr : Tryz.prog.mainIs = some ((true, "63520011f0a2b22137a1671335d861aaeec399f60ad374b0d994d8a8995ab031").1, (true, "63520011f0a2b22137a1671335d861aaeec399f60ad374b0d994d8a8995ab031").2.toList) := by kernel_rfl
theorem Sx:true=Tryz.prog.looks []:=by kernel_rfl
theorem QI:false=Rows.fnExactArriveRow.goesBy Tryz.prog:=by kernel_rfl
theorem Dp (os:Os) (started:os.Started) (H:Type) (enc:TypeId×Value->H) :
 ReturnsInHanded {} Tryz.checked os 5 .any (fun w args=>(Rows.fnExactArriveSpec.pre enc Tryz.prog Tryz.f5 Rows.fnExactArriveRow.domain false w args/\laidMetH Tryz.prog Rows.fnExactArriveRow.laid w)/\sizedMet enc Tryz.prog Tryz.f5 (OpenSpec.ofChange Rows.fnExactArriveSpec) false w args) (Rows.fnExactArriveSpec.post enc Tryz.prog Tryz.f5 false true false false):=by
 refine AN (C:=Tryz.checked) (X:=fun w _=>laidMetH Tryz.prog Rows.fnExactArriveRow.laid w) (fun _ _ _ hh h=>h.of_heap hh) Tryz.own started (by kernel_rfl) Tryz.func5
  (ChangeSpec.witness_shaped (enc:=enc) (C:=Tryz.checked) (os:=os) (X:=fun w _=>laidMetH Tryz.prog Rows.fnExactArriveRow.laid w) false (World.laidAll Tryz.prog os Rows.fnExactArriveRow.laid) #[.agg #[.slice none 0 0,.int .i64 0,.int .i64 0,.slice none 0 0],.slice none 0 0] 8 (World.laidAll_os _ _ _) (CP os) (by kernel_rfl) (by kernel_rfl) (by kernel_rfl) (Np os _)) ?_
 intro W base args ds gs before hval hW hwt hL hsh;have hW':=hW;obtain ⟨p,q,hA,hV,_,_,_⟩:=hW';obtain ⟨rfl,rfl⟩:gs=[]/\q=[]:=by
  cases gs with
  | nil=>exact ⟨rfl,hV⟩
  | cons _ _=>exact hV.elim
 have hwt2:∀ m∈DataW.weightsEach Tryz.prog Tryz.f5.params.toList ds,m<=aT:=fun m hm=>by
  have e:Rows.fnExactArriveSpec.plain.varTypes Tryz.checked.prog=[]:=rfl;rw [e,List.append_nil,List.append_nil] at hwt;have:=List.all_eq_true.1 hwt m hm;have h2:m<=reachBytes:=by simpa using this
  exact Nat.le_trans h2 (by decide)
 obtain ⟨x,hx,hbg⟩:=BY (E:=E0) (P:=Tryz.prog) hT Tryz.f5.params.toList s5.ps (by kernel_rfl) args.toList ds p 0 hA (fun j t v ht hv=>hval j t v (by rw [<- Array.getElem?_toList]; exact ht) (by rw [<- Array.getElem?_toList]; exact hv)) hwt2;refine (GK (P:=Tryz.prog) (c:=ak Tryz.f5) ok5 Tryz.func5 (by kernel_rfl) (by kernel_rfl) (aaI hsh hL) hx ⟨_,Dk x.1 x.2.1.1 (DQ x.1 hbg.1) hbg.2.1.1.1 (DY x.1 hbg.1) (fun y hy=>(hbg.2.1.1.2 y hy).1),fun _ _ _ _ hr=>Hn hr⟩).mono fun e W' ⟨he,hb⟩=>⟨_,he,?_⟩
 have hlen:ds.length=2:=AL _ _ _ _ hA;obtain ⟨d1,d2,rfl⟩:∃ d1 d2,ds=[d1,d2]:=by
  match ds,hlen with
  | [d1,d2],_=>exact ⟨d1,d2,rfl⟩
 exact H3 (rt:=4) Tryz.laidOut rfl (by kernel_rfl) (by kernel_rfl) (by decide +kernel) hW hb rfl
theorem Oa:Rows.FnExactArriveSaid :=
 OpenClaim.holds_of_wide 5 Tryz.f5 rfl rfl rfl rfl rfl rfl rfl ⟨rfl,rfl,rfl,rfl,rfl⟩ rfl rfl rfl rfl rfl (by kernel_rfl) Tryz.func5 RU
  (of_decide_eq_true (by kernel_rfl)) (by unfold Func.isWrapper; first | (rw [if_pos (by decide +kernel)]; kernel_rfl) | (rw [if_neg (by decide +kernel)]; exact ⟨rfl,rfl⟩))
  (fun os started H enc _=>Dp os started H enc)
theorem arr_holds:Rows.FnExactArriveCardSaid :=
 Claim7.holds_tied_plain_at .later [] [.data, .data, .data, .data, .sentinel, .sentinel, .pinned] true (true, "63520011f0a2b22137a1671335d861aaeec399f60ad374b0d994d8a8995ab031") true
  Oa (fun _ h=>by cases h) QT (fun _ h=>by cases h) fnExactArrive_row_tie rfl ⟨rfl,rfl⟩ Qr rfl
  (fun f fn hf hfn=>by
    obtain rfl : f = 5 := Option.some.inj ((show Tryz.prog.funcNamed "loop.example/g00735/laws.FnExactArrive" = some 5 by kernel_rfl).symm.trans hf) |>.symm
    obtain rfl:fn=Tryz.f5:=(Option.some.inj (Tryz.func5.symm.trans hfn)).symm;exact ⟨Sx,fun j t ht=>by
     have hm:t∈[25,39]:=by
      have e:Tryz.f5.params.toList=[25,39]:=by kernel_rfl
      rw [<- e]; exact Array.mem_toList_iff.2 (Array.mem_of_getElem? ht)
     have hall:([25,39].all fun u=> !Tryz.prog.wantsStandIn u)=true:=by kernel_rfl
     exact (show Tryz.prog.wantsStandIn t=false by simpa using List.all_eq_true.1 hall t hm)⟩)
  QI
end Go.Proofs.YtbgoaopannojjaaGreatDoor
#print axioms Go.Proofs.YtbgoaopannojjaaGreatDoor.arr_holds
