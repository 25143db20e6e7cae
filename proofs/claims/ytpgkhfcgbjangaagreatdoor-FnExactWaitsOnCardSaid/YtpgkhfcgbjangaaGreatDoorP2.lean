/- Part of a proof that the law FnExactWaitsOn answers true for every input: the printed functions of this program and their plain laws. No conditions beyond the statement. -/
import Derived.Test.YtpgkhfcgbjangaaGreatDoorP1
import Derived.Test.YtpgkhfcgbjangaaGreatDoorFw4
set_option maxRecDepth 100000
set_option maxHeartbeats 4000000
namespace Go.Av
def wHold (x:((List UInt8)×Int×Int×Unit)):Nat:=x.1.length
def bgHold (x:((List UInt8)×Int×Int×Unit)):Prop:=x.1.length<=big
theorem szHold (x:((List UInt8)×Int×Int×Unit)) (left:Int) (h0:0<=left) (h1:left<=1048576) (hb:bgHold x):g183 x left=some ((),((szR left (wHold x),()),())):=by
 have hw:wHold x=x.1.length:=rfl;unfold g183
 try dsimp only
 by_cases q0:((x.1.length:Nat):Int)<=left;rotate_left
 . rw [szR_len (s:=x.1) (left:=left) (by omega) (by omega) hb]; rw [ltI_yes (by omega),szR_neg (by omega)]; rfl
 rw [szR_len (s:=x.1) (left:=left) (by omega) (by omega) hb]; rw [ltI_no (by omega)]; dsimp only [cond_false];rw [szR_pos (by omega)];have e:(left - ((x.1.length:Nat):Int))=left - ((wHold x:Nat):Int):=by omega
 rw [e]
theorem toHold (x:((List UInt8)×Int×Int×Unit)) (h:wHold x<=1048576):g188 x=some ((),(x,())):=by have hw:wHold x=x.1.length:=rfl;unfold g188;rfl
theorem eqHold (x:((List UInt8)×Int×Int×Unit)) (h:wHold x<=1099511627776):g197 x x=some ((),((true,()),())):=by have hw:wHold x=x.1.length:=rfl;unfold g197;simp only [eqI_refl,eqS_refl,Bool.not_true,cond_false,Option.bind_some,beq_self_eq_true]
theorem szIntS (x:(List R3)) (left:Int) (h0:0<=left) (h1:left<=1048576) (hb:x.length<=big):g83 x left=some ((),((szR left x.length,()),())):=by
 unfold g83;dsimp only;by_cases q:((x.length:Nat):Int)<=left
 . rw [szR_len (s:=x) (left:=left) (by omega) (by omega) hb,ltI_no (by omega),szR_pos q]; rfl
 . rw [szR_len (s:=x) (left:=left) (by omega) (by omega) hb,ltI_yes (by omega),szR_neg q]; rfl
theorem toIntS (xs:List R3) (h:xs.length<=1048576):g89 xs=some ((),((xs,()),())):=by
 have hb:big=140737488355328:=rfl;unfold g89;dsimp only;rw [mkB_in (by decide) (by omega),repI_len]
 have h:=loop_inv (step:=fun (x:(List R3)×(List R3)×Int×Unit)=>r89_0 x.1 x.2.1 x.2.2.1) xs (fun i (a:List R3)=>(xs,a ++ List.replicate (xs.length - i) d3,((i:Nat):Int),())) (fun _ x (a:List R3)=>Sum.inl (a ++ [x]))
  (fun a=> .inl (xs,a,(xs.length:Int),())) (fun i a=>a.length=i) (a0:=[]) rfl (fun i x a hx ha=>by
    have hlt:=lt_of_get hx;show r89_0 xs (a ++ List.replicate (xs.length - i) d3) (i:Int)=_;unfold r89_0;obtain ⟨q,hq⟩:∃ q,xs.length - i=q + 1:=⟨xs.length - i - 1,by omega⟩;have hq':xs.length - (i + 1)=q:=by omega
    rw [hq,List.replicate_succ,ltI_in hx,inB_in hx,inB_mid ha,gt_in _ hx,stI_mid ha,addW1 (by omega),hq'];dsimp only [cond_true];rw [List.append_assoc]; rfl) (fun i x a a' hx ha hf=>by
    simp only [Sum.inl.injEq] at hf;rw [<- hf,List.length_append,ha]; rfl) (fun a ha=>by
    show r89_0 xs (a ++ List.replicate (xs.length - xs.length) d3) (xs.length:Int)=_;unfold r89_0;rw [ltI_out rfl,Nat.sub_self,List.replicate_zero,List.append_nil]; rfl)
 rw [goL_cp] at h;have h':l89_0 xs (List.replicate xs.length d3) 0=_:=h;rw [h']; rfl
theorem eqIntS (xs:List R3) (h:xs.length<=1099511627776):g24 xs xs=some ((),((true,()),())):=by
 have hb:big=140737488355328:=rfl;unfold g24;rw [eqI_refl];have h:=loop_list (step:=fun (x:(List R3)×(List R3)×Int×Unit)=>r24_0 x.1 x.2.1 x.2.2.1) xs (fun i (_:Unit)=>(xs,xs,((i:Nat):Int),())) (fun _ x _=>Sum.inl ()) (fun _=> .inl (xs,xs,(xs.length:Int),())) (a0:=()) (fun i x a hx=>by
  have hlt:=lt_of_get hx;show r24_0 xs xs (i:Int)=_;unfold r24_0;rw [ltI_in hx,inB_in hx,gt_in _ hx,eqI_refl,addW1 (by omega)]; rfl) (fun a=>by
  show r24_0 xs xs (xs.length:Int)=_;unfold r24_0;rw [ltI_out rfl]; rfl)
 rw [goL_fold (fun _ a=>a)] at h;have h':l24_0 xs xs 0=_:=h;rw [h']; rfl
def wRing (x:(Int×Int×(List R3)×(List R3)×Unit)):Nat:=x.2.2.1.length + x.2.2.2.1.length
def bgRing (x:(Int×Int×(List R3)×(List R3)×Unit)):Prop:=x.2.2.1.length<=big/\x.2.2.2.1.length<=big
theorem szRing (x:(Int×Int×(List R3)×(List R3)×Unit)) (left:Int) (h0:0<=left) (h1:left<=1048576) (hb:bgRing x):g131 x left=some ((),((szR left (wRing x),()),())):=by
 have hw:wRing x=x.2.2.1.length + x.2.2.2.1.length:=rfl;unfold g131
 try dsimp only
 by_cases q0:((x.2.2.1.length:Nat):Int)<=left;rotate_left
 . rw [szIntS x.2.2.1 left (by omega) (by omega) (hb.1),szR_neg q0,szR_neg (by omega)]; rfl
 rw [szIntS x.2.2.1 left (by omega) (by omega) (hb.1),szR_pos q0]; dsimp only [Option.bind_some]; rw [ltI_no (by omega)]; dsimp only [cond_false];by_cases q1:((x.2.2.2.1.length:Nat):Int)<=(left - ((x.2.2.1.length:Nat):Int));rotate_left
 . rw [szIntS x.2.2.2.1 (left - ((x.2.2.1.length:Nat):Int)) (by omega) (by omega) (hb.2),szR_neg q1,szR_neg (by omega)]; rfl
 rw [szIntS x.2.2.2.1 (left - ((x.2.2.1.length:Nat):Int)) (by omega) (by omega) (hb.2),szR_pos q1]; dsimp only [Option.bind_some]; rw [ltI_no (by omega)]; dsimp only [cond_false];rw [szR_pos (by omega)];have e:((left - ((x.2.2.1.length:Nat):Int)) - ((x.2.2.2.1.length:Nat):Int))=left - ((wRing x:Nat):Int):=by omega
 rw [e]
theorem toRing (x:(Int×Int×(List R3)×(List R3)×Unit)) (h:wRing x<=1048576):g139 x=some ((),(x,())):=by have hw:wRing x=x.2.2.1.length + x.2.2.2.1.length:=rfl;unfold g139;rw [toIntS x.2.2.1 (by omega)];rw [toIntS x.2.2.2.1 (by omega)];rfl
theorem eqRing (x:(Int×Int×(List R3)×(List R3)×Unit)) (h:wRing x<=1099511627776):g147 x x=some ((),((true,()),())):=by have hw:wRing x=x.2.2.1.length + x.2.2.2.1.length:=rfl;unfold g147;simp only [eqI_refl,eqS_refl,Bool.not_true,cond_false,Option.bind_some,beq_self_eq_true,eqIntS x.2.2.1 (by omega),eqIntS x.2.2.2.1 (by omega)]
theorem szByteS (x:(List R5)) (left:Int) (h0:0<=left) (h1:left<=1048576) (hb:x.length<=big):g82 x left=some ((),((szR left x.length,()),())):=by
 unfold g82;dsimp only;by_cases q:((x.length:Nat):Int)<=left
 . rw [szR_len (s:=x) (left:=left) (by omega) (by omega) hb,ltI_no (by omega),szR_pos q]; rfl
 . rw [szR_len (s:=x) (left:=left) (by omega) (by omega) hb,ltI_yes (by omega),szR_neg q]; rfl
theorem toByteS (xs:List R5) (h:xs.length<=1048576):g88 xs=some ((),((xs,()),())):=by
 have hb:big=140737488355328:=rfl;unfold g88;dsimp only;rw [mkB_in (by decide) (by omega),repI_len]
 have h:=loop_inv (step:=fun (x:(List R5)×(List R5)×Int×Unit)=>r88_0 x.1 x.2.1 x.2.2.1) xs (fun i (a:List R5)=>(xs,a ++ List.replicate (xs.length - i) d5,((i:Nat):Int),())) (fun _ x (a:List R5)=>Sum.inl (a ++ [x]))
  (fun a=> .inl (xs,a,(xs.length:Int),())) (fun i a=>a.length=i) (a0:=[]) rfl (fun i x a hx ha=>by
    have hlt:=lt_of_get hx;show r88_0 xs (a ++ List.replicate (xs.length - i) d5) (i:Int)=_;unfold r88_0;obtain ⟨q,hq⟩:∃ q,xs.length - i=q + 1:=⟨xs.length - i - 1,by omega⟩;have hq':xs.length - (i + 1)=q:=by omega
    rw [hq,List.replicate_succ,ltI_in hx,inB_in hx,inB_mid ha,gt_in _ hx,stI_mid ha,addW1 (by omega),hq'];dsimp only [cond_true];rw [List.append_assoc]; rfl) (fun i x a a' hx ha hf=>by
    simp only [Sum.inl.injEq] at hf;rw [<- hf,List.length_append,ha]; rfl) (fun a ha=>by
    show r88_0 xs (a ++ List.replicate (xs.length - xs.length) d5) (xs.length:Int)=_;unfold r88_0;rw [ltI_out rfl,Nat.sub_self,List.replicate_zero,List.append_nil]; rfl)
 rw [goL_cp] at h;have h':l88_0 xs (List.replicate xs.length d5) 0=_:=h;rw [h']; rfl
theorem eqByteS (xs:List R5) (h:xs.length<=1099511627776):g96 xs xs=some ((),((true,()),())):=by
 have hb:big=140737488355328:=rfl;unfold g96;rw [eqI_refl];have h:=loop_list (step:=fun (x:(List R5)×(List R5)×Int×Unit)=>r96_0 x.1 x.2.1 x.2.2.1) xs (fun i (_:Unit)=>(xs,xs,((i:Nat):Int),())) (fun _ x _=>Sum.inl ()) (fun _=> .inl (xs,xs,(xs.length:Int),())) (a0:=()) (fun i x a hx=>by
  have hlt:=lt_of_get hx;show r96_0 xs xs (i:Int)=_;unfold r96_0;rw [ltI_in hx,inB_in hx,gt_in _ hx,eqI_refl,addW1 (by omega)]; rfl) (fun a=>by
  show r96_0 xs xs (xs.length:Int)=_;unfold r96_0;rw [ltI_out rfl]; rfl)
 rw [goL_fold (fun _ a=>a)] at h;have h':l96_0 xs xs 0=_:=h;rw [h']; rfl
def wSlot (x:((List UInt8)×(List UInt8)×(List R5)×Unit)):Nat:=x.1.length + x.2.1.length + x.2.2.1.length
def bgSlot (x:((List UInt8)×(List UInt8)×(List R5)×Unit)):Prop:=x.1.length<=big/\x.2.1.length<=big/\x.2.2.1.length<=big
def bySlot (x:((List UInt8)×(List UInt8)×(List R5)×Unit)):Prop:=(∀ y∈x.2.2.1,inR .u8 y.1)
theorem szSlot (x:((List UInt8)×(List UInt8)×(List R5)×Unit)) (left:Int) (h0:0<=left) (h1:left<=1048576) (hb:bgSlot x):g184 x left=some ((),((szR left (wSlot x),()),())):=by
 have hw:wSlot x=x.1.length + x.2.1.length + x.2.2.1.length:=rfl;unfold g184
 try dsimp only
 by_cases q0:((x.1.length:Nat):Int)<=left;rotate_left
 . rw [szR_len (s:=x.1) (left:=left) (by omega) (by omega) hb.1]; rw [ltI_yes (by omega),szR_neg (by omega)]; rfl
 rw [szR_len (s:=x.1) (left:=left) (by omega) (by omega) hb.1]; rw [ltI_no (by omega)]; dsimp only [cond_false];by_cases q1:((x.2.1.length:Nat):Int)<=(left - ((x.1.length:Nat):Int));rotate_left
 . rw [szR_len (s:=x.2.1) (left:=(left - ((x.1.length:Nat):Int))) (by omega) (by omega) hb.2.1]; rw [ltI_yes (by omega),szR_neg (by omega)]; rfl
 rw [szR_len (s:=x.2.1) (left:=(left - ((x.1.length:Nat):Int))) (by omega) (by omega) hb.2.1]; rw [ltI_no (by omega)]; dsimp only [cond_false];by_cases q2:((x.2.2.1.length:Nat):Int)<=((left - ((x.1.length:Nat):Int)) - ((x.2.1.length:Nat):Int));rotate_left
 . rw [szByteS x.2.2.1 ((left - ((x.1.length:Nat):Int)) - ((x.2.1.length:Nat):Int)) (by omega) (by omega) (hb.2.2),szR_neg q2,szR_neg (by omega)]; rfl
 rw [szByteS x.2.2.1 ((left - ((x.1.length:Nat):Int)) - ((x.2.1.length:Nat):Int)) (by omega) (by omega) (hb.2.2),szR_pos q2]; dsimp only [Option.bind_some]; rw [ltI_no (by omega)]; dsimp only [cond_false];rw [szR_pos (by omega)];have e:(((left - ((x.1.length:Nat):Int)) - ((x.2.1.length:Nat):Int)) - ((x.2.2.1.length:Nat):Int))=left - ((wSlot x:Nat):Int):=by omega
 rw [e]
theorem toSlot (x:((List UInt8)×(List UInt8)×(List R5)×Unit)) (h:wSlot x<=1048576):g189 x=some ((),(x,())):=by have hw:wSlot x=x.1.length + x.2.1.length + x.2.2.1.length:=rfl;unfold g189;rw [toByteS x.2.2.1 (by omega)];rfl
theorem eqSlot (x:((List UInt8)×(List UInt8)×(List R5)×Unit)) (h:wSlot x<=1099511627776):g198 x x=some ((),((true,()),())):=by have hw:wSlot x=x.1.length + x.2.1.length + x.2.2.1.length:=rfl;unfold g198;simp only [eqI_refl,eqS_refl,Bool.not_true,cond_false,Option.bind_some,beq_self_eq_true,eqByteS x.2.2.1 (by omega)]
theorem szHoldS_loop (xs:List R204) (hb:xs.length<=big/\∀ y∈xs,bgHold y) (a:Int) (h0:0<=a) (h1:a<=1048576):l130_0 xs a 0=some (if ((cL wHold xs:Nat):Int)<=a then .inl (xs,a - (cL wHold xs:Nat),(xs.length:Int),()) else .inr (-1,())):=by
 have h:=loop_inv (step:=fun (x:(List R204)×Int×Int×Unit)=>r130_0 x.1 x.2.1 x.2.2.1) xs (fun i (a:Int)=>(xs,a,((i:Nat):Int),())) (fun _ x (a:Int)=>bif decide ((wHold x:Int)<=a) then Sum.inl (a - wHold x) else .inr (.inr (-1,())))
  (fun a=> .inl (xs,a,(xs.length:Int),())) (fun _ a=>0<=a/\a<=1048576) (a0:=a) ⟨h0,h1⟩ (fun i x a hx ha=>by
    have hmem:=List.mem_of_getElem? hx;have hlt:=lt_of_get hx;show r130_0 xs a (i:Int)=_;unfold r130_0;rw [ltI_in hx,inB_in hx,gt_in _ hx,szHold x a ha.1 ha.2 (hb.2 x hmem),addW1 (by omega)];dsimp only [cond_true,Option.bind_some];by_cases q:((wHold x:Nat):Int)<=a
    . rw [szR_pos q,ltI_no (by omega),decide_eq_true q]; rfl
    . rw [szR_neg q,decide_eq_false q]; rfl) (fun i x a a' hx ha hf=>by
    by_cases q:((wHold x:Nat):Int)<=a
    . rw [decide_eq_true q] at hf;simp only [cond_true,Sum.inl.injEq] at hf;omega
    . rw [decide_eq_false q] at hf;simp at hf) (fun a ha=>by
    show r130_0 xs a (xs.length:Int)=_;unfold r130_0;rw [ltI_out rfl]; rfl)
 rw [goL_sz _ _ _ _ _ _ h0] at h;refine Eq.trans h ?_;split <;> rfl
theorem szHoldS (xs:List R204) (left:Int) (h0:0<=left) (h1:left<=1048576) (hb:xs.length<=big/\∀ y∈xs,bgHold y):g130 xs left=some ((),((szR left (wL wHold xs),()),())):=by
 have hw:wL wHold xs=xs.length + cL wHold xs:=rfl;unfold g130;dsimp only;rw [szR_len (s:=xs) (left:=left) (by omega) (by omega) hb.1];by_cases q:((xs.length:Nat):Int)<=left
 . rw [ltI_no (by omega)];dsimp only [cond_false];rw [szHoldS_loop xs hb _ (by omega) (by omega)];by_cases q2:((cL wHold xs:Nat):Int)<=left - (xs.length:Int)
   . rw [if_pos q2,szR_pos (by omega)];dsimp only [Option.bind_some,Sum.elim_inl];have e:left - (xs.length:Int) - (cL wHold xs:Nat)=left - ((wL wHold xs:Nat):Int):=by omega
     rw [e]
   . rw [if_neg q2,szR_neg (by omega)]; rfl
 . rw [ltI_yes (by omega),szR_neg (by omega)]; rfl
theorem toHoldS (xs:List R204) (h:wL wHold xs<=1048576):g138 xs=some ((),((xs,()),())):=by
 have hb:big=140737488355328:=rfl;have hw:wL wHold xs=xs.length + cL wHold xs:=rfl;unfold g138;dsimp only;rw [mkB_in (by decide) (by omega),repI_len]
 have h:=loop_inv (step:=fun (x:(List R204)×(List R157)×Int×Unit)=>r138_0 x.1 x.2.1 x.2.2.1) xs (fun i (a:List R204)=>(xs,a ++ List.replicate (xs.length - i) d157,((i:Nat):Int),())) (fun _ x (a:List R204)=>Sum.inl (a ++ [x]))
  (fun a=> .inl (xs,a,(xs.length:Int),())) (fun i a=>a.length=i) (a0:=[]) rfl (fun i x a hx ha=>by
    have hlt:=lt_of_get hx;have hcm:=cL_mem wHold hx;show r138_0 xs (a ++ List.replicate (xs.length - i) d157) (i:Int)=_;unfold r138_0;obtain ⟨q,hq⟩:∃ q,xs.length - i=q + 1:=⟨xs.length - i - 1,by omega⟩;have hq':xs.length - (i + 1)=q:=by omega
    rw [hq,List.replicate_succ,ltI_in hx,inB_in hx,gt_in _ hx,toHold x (by omega)];dsimp only [cond_true,Option.bind_some];simp only [inB_mid ha,gt_mid _ ha,stI_mid ha,addW1 (show i<=big by omega),hq',cond_true,List.append_assoc,List.singleton_append]) (fun i x a a' hx ha hf=>by
    simp only [Sum.inl.injEq] at hf;rw [<- hf,List.length_append,ha]; rfl) (fun a ha=>by
    show r138_0 xs (a ++ List.replicate (xs.length - xs.length) d157) (xs.length:Int)=_;unfold r138_0;rw [ltI_out rfl,Nat.sub_self,List.replicate_zero,List.append_nil]; rfl)
 rw [goL_cp] at h;have h':l138_0 xs (List.replicate xs.length d157) 0=_:=h;rw [h']; rfl
theorem eqHoldS (xs:List R157) (h:wL wHold xs<=1099511627776):g146 xs xs=some ((),((true,()),())):=by
 have hb:big=140737488355328:=rfl;have hw:wL wHold xs=xs.length + cL wHold xs:=rfl;unfold g146;rw [eqI_refl];have h:=loop_list (step:=fun (x:(List R157)×(List R157)×Int×Unit)=>r146_0 x.1 x.2.1 x.2.2.1) xs (fun i (_:Unit)=>(xs,xs,((i:Nat):Int),())) (fun _ x _=>Sum.inl ()) (fun _=> .inl (xs,xs,(xs.length:Int),())) (a0:=()) (fun i x a hx=>by
  have hlt:=lt_of_get hx;have hcm:=cL_mem wHold hx;show r146_0 xs xs (i:Int)=_;unfold r146_0;rw [ltI_in hx,inB_in hx,gt_in _ hx,eqHold x (by omega),addW1 (by omega)]; rfl) (fun a=>by
  show r146_0 xs xs (xs.length:Int)=_;unfold r146_0;rw [ltI_out rfl]; rfl)
 rw [goL_fold (fun _ a=>a)] at h;have h':l146_0 xs xs 0=_:=h;rw [h']; rfl
theorem szSlotS_loop (xs:List R206) (hb:xs.length<=big/\∀ y∈xs,bgSlot y) (a:Int) (h0:0<=a) (h1:a<=1048576):l132_0 xs a 0=some (if ((cL wSlot xs:Nat):Int)<=a then .inl (xs,a - (cL wSlot xs:Nat),(xs.length:Int),()) else .inr (-1,())):=by
 have h:=loop_inv (step:=fun (x:(List R206)×Int×Int×Unit)=>r132_0 x.1 x.2.1 x.2.2.1) xs (fun i (a:Int)=>(xs,a,((i:Nat):Int),())) (fun _ x (a:Int)=>bif decide ((wSlot x:Int)<=a) then Sum.inl (a - wSlot x) else .inr (.inr (-1,())))
  (fun a=> .inl (xs,a,(xs.length:Int),())) (fun _ a=>0<=a/\a<=1048576) (a0:=a) ⟨h0,h1⟩ (fun i x a hx ha=>by
    have hmem:=List.mem_of_getElem? hx;have hlt:=lt_of_get hx;show r132_0 xs a (i:Int)=_;unfold r132_0;rw [ltI_in hx,inB_in hx,gt_in _ hx,szSlot x a ha.1 ha.2 (hb.2 x hmem),addW1 (by omega)];dsimp only [cond_true,Option.bind_some];by_cases q:((wSlot x:Nat):Int)<=a
    . rw [szR_pos q,ltI_no (by omega),decide_eq_true q]; rfl
    . rw [szR_neg q,decide_eq_false q]; rfl) (fun i x a a' hx ha hf=>by
    by_cases q:((wSlot x:Nat):Int)<=a
    . rw [decide_eq_true q] at hf;simp only [cond_true,Sum.inl.injEq] at hf;omega
    . rw [decide_eq_false q] at hf;simp at hf) (fun a ha=>by
    show r132_0 xs a (xs.length:Int)=_;unfold r132_0;rw [ltI_out rfl]; rfl)
 rw [goL_sz _ _ _ _ _ _ h0] at h;refine Eq.trans h ?_;split <;> rfl
theorem szSlotS (xs:List R206) (left:Int) (h0:0<=left) (h1:left<=1048576) (hb:xs.length<=big/\∀ y∈xs,bgSlot y):g132 xs left=some ((),((szR left (wL wSlot xs),()),())):=by
 have hw:wL wSlot xs=xs.length + cL wSlot xs:=rfl;unfold g132;dsimp only;rw [szR_len (s:=xs) (left:=left) (by omega) (by omega) hb.1];by_cases q:((xs.length:Nat):Int)<=left
 . rw [ltI_no (by omega)];dsimp only [cond_false];rw [szSlotS_loop xs hb _ (by omega) (by omega)];by_cases q2:((cL wSlot xs:Nat):Int)<=left - (xs.length:Int)
   . rw [if_pos q2,szR_pos (by omega)];dsimp only [Option.bind_some,Sum.elim_inl];have e:left - (xs.length:Int) - (cL wSlot xs:Nat)=left - ((wL wSlot xs:Nat):Int):=by omega
     rw [e]
   . rw [if_neg q2,szR_neg (by omega)]; rfl
 . rw [ltI_yes (by omega),szR_neg (by omega)]; rfl
theorem toSlotS (xs:List R206) (h:wL wSlot xs<=1048576):g140 xs=some ((),((xs,()),())):=by
 have hb:big=140737488355328:=rfl;have hw:wL wSlot xs=xs.length + cL wSlot xs:=rfl;unfold g140;dsimp only;rw [mkB_in (by decide) (by omega),repI_len]
 have h:=loop_inv (step:=fun (x:(List R206)×(List R160)×Int×Unit)=>r140_0 x.1 x.2.1 x.2.2.1) xs (fun i (a:List R206)=>(xs,a ++ List.replicate (xs.length - i) d160,((i:Nat):Int),())) (fun _ x (a:List R206)=>Sum.inl (a ++ [x]))
  (fun a=> .inl (xs,a,(xs.length:Int),())) (fun i a=>a.length=i) (a0:=[]) rfl (fun i x a hx ha=>by
    have hlt:=lt_of_get hx;have hcm:=cL_mem wSlot hx;show r140_0 xs (a ++ List.replicate (xs.length - i) d160) (i:Int)=_;unfold r140_0;obtain ⟨q,hq⟩:∃ q,xs.length - i=q + 1:=⟨xs.length - i - 1,by omega⟩;have hq':xs.length - (i + 1)=q:=by omega
    rw [hq,List.replicate_succ,ltI_in hx,inB_in hx,gt_in _ hx,toSlot x (by omega)];dsimp only [cond_true,Option.bind_some];simp only [inB_mid ha,gt_mid _ ha,stI_mid ha,addW1 (show i<=big by omega),hq',cond_true,List.append_assoc,List.singleton_append]) (fun i x a a' hx ha hf=>by
    simp only [Sum.inl.injEq] at hf;rw [<- hf,List.length_append,ha]; rfl) (fun a ha=>by
    show r140_0 xs (a ++ List.replicate (xs.length - xs.length) d160) (xs.length:Int)=_;unfold r140_0;rw [ltI_out rfl,Nat.sub_self,List.replicate_zero,List.append_nil]; rfl)
 rw [goL_cp] at h;have h':l140_0 xs (List.replicate xs.length d160) 0=_:=h;rw [h']; rfl
theorem eqSlotS (xs:List R160) (h:wL wSlot xs<=1099511627776):g148 xs xs=some ((),((true,()),())):=by
 have hb:big=140737488355328:=rfl;have hw:wL wSlot xs=xs.length + cL wSlot xs:=rfl;unfold g148;rw [eqI_refl];have h:=loop_list (step:=fun (x:(List R160)×(List R160)×Int×Unit)=>r148_0 x.1 x.2.1 x.2.2.1) xs (fun i (_:Unit)=>(xs,xs,((i:Nat):Int),())) (fun _ x _=>Sum.inl ()) (fun _=> .inl (xs,xs,(xs.length:Int),())) (a0:=()) (fun i x a hx=>by
  have hlt:=lt_of_get hx;have hcm:=cL_mem wSlot hx;show r148_0 xs xs (i:Int)=_;unfold r148_0;rw [ltI_in hx,inB_in hx,gt_in _ hx,eqSlot x (by omega),addW1 (by omega)]; rfl) (fun a=>by
  show r148_0 xs xs (xs.length:Int)=_;unfold r148_0;rw [ltI_out rfl]; rfl)
 rw [goL_fold (fun _ a=>a)] at h;have h':l148_0 xs xs 0=_:=h;rw [h']; rfl
def wAcct (x:((List UInt8)×Int×Int×Int×Int×(List R157)×Int×Int×(List R3)×(List R3)×(List R160)×Unit)):Nat:=x.1.length + wL wHold x.2.2.2.2.2.1 + wRing (x.2.2.2.2.2.2.1,x.2.2.2.2.2.2.2.1,x.2.2.2.2.2.2.2.2.1,x.2.2.2.2.2.2.2.2.2.1,()) + wL wSlot x.2.2.2.2.2.2.2.2.2.2.1
def bgAcct (x:((List UInt8)×Int×Int×Int×Int×(List R157)×Int×Int×(List R3)×(List R3)×(List R160)×Unit)):Prop:=x.1.length<=big/\(x.2.2.2.2.2.1.length<=big/\∀ y∈x.2.2.2.2.2.1,bgHold y)/\bgRing (x.2.2.2.2.2.2.1,x.2.2.2.2.2.2.2.1,x.2.2.2.2.2.2.2.2.1,x.2.2.2.2.2.2.2.2.2.1,())/\(x.2.2.2.2.2.2.2.2.2.2.1.length<=big/\∀ y∈x.2.2.2.2.2.2.2.2.2.2.1,bgSlot y)
def byAcct (x:((List UInt8)×Int×Int×Int×Int×(List R157)×Int×Int×(List R3)×(List R3)×(List R160)×Unit)):Prop:=(∀ y∈x.2.2.2.2.2.2.2.2.2.2.1,bySlot y)
theorem szAcct (x:((List UInt8)×Int×Int×Int×Int×(List R157)×Int×Int×(List R3)×(List R3)×(List R160)×Unit)) (left:Int) (h0:0<=left) (h1:left<=1048576) (hb:bgAcct x):g97 x left=some ((),((szR left (wAcct x),()),())):=by
 have hw:wAcct x=x.1.length + wL wHold x.2.2.2.2.2.1 + wRing (x.2.2.2.2.2.2.1,x.2.2.2.2.2.2.2.1,x.2.2.2.2.2.2.2.2.1,x.2.2.2.2.2.2.2.2.2.1,()) + wL wSlot x.2.2.2.2.2.2.2.2.2.2.1:=rfl;unfold g97
 try dsimp only
 by_cases q0:((x.1.length:Nat):Int)<=left;rotate_left
 . rw [szR_len (s:=x.1) (left:=left) (by omega) (by omega) hb.1]; rw [ltI_yes (by omega),szR_neg (by omega)]; rfl
 rw [szR_len (s:=x.1) (left:=left) (by omega) (by omega) hb.1]; rw [ltI_no (by omega)]; dsimp only [cond_false];by_cases q1:((wL wHold x.2.2.2.2.2.1:Nat):Int)<=(left - ((x.1.length:Nat):Int));rotate_left
 . rw [szHoldS x.2.2.2.2.2.1 (left - ((x.1.length:Nat):Int)) (by omega) (by omega) (hb.2.1),szR_neg q1,szR_neg (by omega)]; rfl
 rw [szHoldS x.2.2.2.2.2.1 (left - ((x.1.length:Nat):Int)) (by omega) (by omega) (hb.2.1),szR_pos q1]; dsimp only [Option.bind_some]; rw [ltI_no (by omega)]; dsimp only [cond_false];by_cases q2:((wRing (x.2.2.2.2.2.2.1,x.2.2.2.2.2.2.2.1,x.2.2.2.2.2.2.2.2.1,x.2.2.2.2.2.2.2.2.2.1,()):Nat):Int)<=((left - ((x.1.length:Nat):Int)) - ((wL wHold x.2.2.2.2.2.1:Nat):Int));rotate_left
 . rw [szRing (x.2.2.2.2.2.2.1,x.2.2.2.2.2.2.2.1,x.2.2.2.2.2.2.2.2.1,x.2.2.2.2.2.2.2.2.2.1,()) ((left - ((x.1.length:Nat):Int)) - ((wL wHold x.2.2.2.2.2.1:Nat):Int)) (by omega) (by omega) (hb.2.2.1),szR_neg q2,szR_neg (by omega)]; rfl
 rw [szRing (x.2.2.2.2.2.2.1,x.2.2.2.2.2.2.2.1,x.2.2.2.2.2.2.2.2.1,x.2.2.2.2.2.2.2.2.2.1,()) ((left - ((x.1.length:Nat):Int)) - ((wL wHold x.2.2.2.2.2.1:Nat):Int)) (by omega) (by omega) (hb.2.2.1),szR_pos q2]; dsimp only [Option.bind_some]; rw [ltI_no (by omega)]; dsimp only [cond_false];by_cases q3:((wL wSlot x.2.2.2.2.2.2.2.2.2.2.1:Nat):Int)<=(((left - ((x.1.length:Nat):Int)) - ((wL wHold x.2.2.2.2.2.1:Nat):Int)) - ((wRing (x.2.2.2.2.2.2.1,x.2.2.2.2.2.2.2.1,x.2.2.2.2.2.2.2.2.1,x.2.2.2.2.2.2.2.2.2.1,()):Nat):Int));rotate_left
 . rw [szSlotS x.2.2.2.2.2.2.2.2.2.2.1 (((left - ((x.1.length:Nat):Int)) - ((wL wHold x.2.2.2.2.2.1:Nat):Int)) - ((wRing (x.2.2.2.2.2.2.1,x.2.2.2.2.2.2.2.1,x.2.2.2.2.2.2.2.2.1,x.2.2.2.2.2.2.2.2.2.1,()):Nat):Int)) (by omega) (by omega) (hb.2.2.2),szR_neg q3,szR_neg (by omega)]; rfl
 rw [szSlotS x.2.2.2.2.2.2.2.2.2.2.1 (((left - ((x.1.length:Nat):Int)) - ((wL wHold x.2.2.2.2.2.1:Nat):Int)) - ((wRing (x.2.2.2.2.2.2.1,x.2.2.2.2.2.2.2.1,x.2.2.2.2.2.2.2.2.1,x.2.2.2.2.2.2.2.2.2.1,()):Nat):Int)) (by omega) (by omega) (hb.2.2.2),szR_pos q3]; dsimp only [Option.bind_some]; rw [ltI_no (by omega)]; dsimp only [cond_false];rw [szR_pos (by omega)];have e:((((left - ((x.1.length:Nat):Int)) - ((wL wHold x.2.2.2.2.2.1:Nat):Int)) - ((wRing (x.2.2.2.2.2.2.1,x.2.2.2.2.2.2.2.1,x.2.2.2.2.2.2.2.2.1,x.2.2.2.2.2.2.2.2.2.1,()):Nat):Int)) - ((wL wSlot x.2.2.2.2.2.2.2.2.2.2.1:Nat):Int))=left - ((wAcct x:Nat):Int):=by omega
 rw [e]
theorem toAcct (x:((List UInt8)×Int×Int×Int×Int×(List R157)×Int×Int×(List R3)×(List R3)×(List R160)×Unit)) (h:wAcct x<=1048576):g105 x=some ((),(x,())):=by have hw:wAcct x=x.1.length + wL wHold x.2.2.2.2.2.1 + wRing (x.2.2.2.2.2.2.1,x.2.2.2.2.2.2.2.1,x.2.2.2.2.2.2.2.2.1,x.2.2.2.2.2.2.2.2.2.1,()) + wL wSlot x.2.2.2.2.2.2.2.2.2.2.1:=rfl;unfold g105;rw [toHoldS x.2.2.2.2.2.1 (by omega)];rw [toRing (x.2.2.2.2.2.2.1,x.2.2.2.2.2.2.2.1,x.2.2.2.2.2.2.2.2.1,x.2.2.2.2.2.2.2.2.2.1,()) (by omega)];rw [toSlotS x.2.2.2.2.2.2.2.2.2.2.1 (by omega)];rfl
theorem eqAcct (x:((List UInt8)×Int×Int×Int×Int×(List R157)×Int×Int×(List R3)×(List R3)×(List R160)×Unit)) (h:wAcct x<=1099511627776):g113 x x=some ((),((true,()),())):=by have hw:wAcct x=x.1.length + wL wHold x.2.2.2.2.2.1 + wRing (x.2.2.2.2.2.2.1,x.2.2.2.2.2.2.2.1,x.2.2.2.2.2.2.2.2.1,x.2.2.2.2.2.2.2.2.2.1,()) + wL wSlot x.2.2.2.2.2.2.2.2.2.2.1:=rfl;unfold g113;simp only [eqI_refl,eqS_refl,Bool.not_true,cond_false,Option.bind_some,beq_self_eq_true,eqHoldS x.2.2.2.2.2.1 (by omega),eqRing (x.2.2.2.2.2.2.1,x.2.2.2.2.2.2.2.1,x.2.2.2.2.2.2.2.2.1,x.2.2.2.2.2.2.2.2.2.1,()) (by omega),eqSlotS x.2.2.2.2.2.2.2.2.2.2.1 (by omega)]
theorem szAcctS_loop (xs:List R124) (hb:xs.length<=big/\∀ y∈xs,bgAcct y) (a:Int) (h0:0<=a) (h1:a<=1048576):l75_0 xs a 0=some (if ((cL wAcct xs:Nat):Int)<=a then .inl (xs,a - (cL wAcct xs:Nat),(xs.length:Int),()) else .inr (-1,())):=by
 have h:=loop_inv (step:=fun (x:(List R124)×Int×Int×Unit)=>r75_0 x.1 x.2.1 x.2.2.1) xs (fun i (a:Int)=>(xs,a,((i:Nat):Int),())) (fun _ x (a:Int)=>bif decide ((wAcct x:Int)<=a) then Sum.inl (a - wAcct x) else .inr (.inr (-1,())))
  (fun a=> .inl (xs,a,(xs.length:Int),())) (fun _ a=>0<=a/\a<=1048576) (a0:=a) ⟨h0,h1⟩ (fun i x a hx ha=>by
    have hmem:=List.mem_of_getElem? hx;have hlt:=lt_of_get hx;show r75_0 xs a (i:Int)=_;unfold r75_0;rw [ltI_in hx,inB_in hx,gt_in _ hx,szAcct x a ha.1 ha.2 (hb.2 x hmem),addW1 (by omega)];dsimp only [cond_true,Option.bind_some];by_cases q:((wAcct x:Nat):Int)<=a
    . rw [szR_pos q,ltI_no (by omega),decide_eq_true q]; rfl
    . rw [szR_neg q,decide_eq_false q]; rfl) (fun i x a a' hx ha hf=>by
    by_cases q:((wAcct x:Nat):Int)<=a
    . rw [decide_eq_true q] at hf;simp only [cond_true,Sum.inl.injEq] at hf;omega
    . rw [decide_eq_false q] at hf;simp at hf) (fun a ha=>by
    show r75_0 xs a (xs.length:Int)=_;unfold r75_0;rw [ltI_out rfl]; rfl)
 rw [goL_sz _ _ _ _ _ _ h0] at h;refine Eq.trans h ?_;split <;> rfl
theorem szAcctS (xs:List R124) (left:Int) (h0:0<=left) (h1:left<=1048576) (hb:xs.length<=big/\∀ y∈xs,bgAcct y):g75 xs left=some ((),((szR left (wL wAcct xs),()),())):=by
 have hw:wL wAcct xs=xs.length + cL wAcct xs:=rfl;unfold g75;dsimp only;rw [szR_len (s:=xs) (left:=left) (by omega) (by omega) hb.1];by_cases q:((xs.length:Nat):Int)<=left
 . rw [ltI_no (by omega)];dsimp only [cond_false];rw [szAcctS_loop xs hb _ (by omega) (by omega)];by_cases q2:((cL wAcct xs:Nat):Int)<=left - (xs.length:Int)
   . rw [if_pos q2,szR_pos (by omega)];dsimp only [Option.bind_some,Sum.elim_inl];have e:left - (xs.length:Int) - (cL wAcct xs:Nat)=left - ((wL wAcct xs:Nat):Int):=by omega
     rw [e]
   . rw [if_neg q2,szR_neg (by omega)]; rfl
 . rw [ltI_yes (by omega),szR_neg (by omega)]; rfl
theorem toAcctS (xs:List R124) (h:wL wAcct xs<=1048576):g77 xs=some ((),((xs,()),())):=by
 have hb:big=140737488355328:=rfl;have hw:wL wAcct xs=xs.length + cL wAcct xs:=rfl;unfold g77;dsimp only;rw [mkB_in (by decide) (by omega),repI_len]
 have h:=loop_inv (step:=fun (x:(List R124)×(List R92)×Int×Unit)=>r77_0 x.1 x.2.1 x.2.2.1) xs (fun i (a:List R124)=>(xs,a ++ List.replicate (xs.length - i) d92,((i:Nat):Int),())) (fun _ x (a:List R124)=>Sum.inl (a ++ [x]))
  (fun a=> .inl (xs,a,(xs.length:Int),())) (fun i a=>a.length=i) (a0:=[]) rfl (fun i x a hx ha=>by
    have hlt:=lt_of_get hx;have hcm:=cL_mem wAcct hx;show r77_0 xs (a ++ List.replicate (xs.length - i) d92) (i:Int)=_;unfold r77_0;obtain ⟨q,hq⟩:∃ q,xs.length - i=q + 1:=⟨xs.length - i - 1,by omega⟩;have hq':xs.length - (i + 1)=q:=by omega
    rw [hq,List.replicate_succ,ltI_in hx,inB_in hx,gt_in _ hx,toAcct x (by omega)];dsimp only [cond_true,Option.bind_some];simp only [inB_mid ha,gt_mid _ ha,stI_mid ha,addW1 (show i<=big by omega),hq',cond_true,List.append_assoc,List.singleton_append]) (fun i x a a' hx ha hf=>by
    simp only [Sum.inl.injEq] at hf;rw [<- hf,List.length_append,ha]; rfl) (fun a ha=>by
    show r77_0 xs (a ++ List.replicate (xs.length - xs.length) d92) (xs.length:Int)=_;unfold r77_0;rw [ltI_out rfl,Nat.sub_self,List.replicate_zero,List.append_nil]; rfl)
 rw [goL_cp] at h;have h':l77_0 xs (List.replicate xs.length d92) 0=_:=h;rw [h']; rfl
theorem eqAcctS (xs:List R92) (h:wL wAcct xs<=1099511627776):g79 xs xs=some ((),((true,()),())):=by
 have hb:big=140737488355328:=rfl;have hw:wL wAcct xs=xs.length + cL wAcct xs:=rfl;unfold g79;rw [eqI_refl];have h:=loop_list (step:=fun (x:(List R92)×(List R92)×Int×Unit)=>r79_0 x.1 x.2.1 x.2.2.1) xs (fun i (_:Unit)=>(xs,xs,((i:Nat):Int),())) (fun _ x _=>Sum.inl ()) (fun _=> .inl (xs,xs,(xs.length:Int),())) (a0:=()) (fun i x a hx=>by
  have hlt:=lt_of_get hx;have hcm:=cL_mem wAcct hx;show r79_0 xs xs (i:Int)=_;unfold r79_0;rw [ltI_in hx,inB_in hx,gt_in _ hx,eqAcct x (by omega),addW1 (by omega)]; rfl) (fun a=>by
  show r79_0 xs xs (xs.length:Int)=_;unfold r79_0;rw [ltI_out rfl]; rfl)
 rw [goL_fold (fun _ a=>a)] at h;have h':l79_0 xs xs 0=_:=h;rw [h']; rfl
def wStripe (x:(Int×(List R92)×Unit)):Nat:=wL wAcct x.2.1
def bgStripe (x:(Int×(List R92)×Unit)):Prop:=(x.2.1.length<=big/\∀ y∈x.2.1,bgAcct y)
def byStripe (x:(Int×(List R92)×Unit)):Prop:=(∀ y∈x.2.1,byAcct y)
theorem szStripe (x:(Int×(List R92)×Unit)) (left:Int) (h0:0<=left) (h1:left<=1048576) (hb:bgStripe x):g57 x left=some ((),((szR left (wStripe x),()),())):=by
 have hw:wStripe x=wL wAcct x.2.1:=rfl;unfold g57
 try dsimp only
 by_cases q0:((wL wAcct x.2.1:Nat):Int)<=left;rotate_left
 . rw [szAcctS x.2.1 left (by omega) (by omega) (hb),szR_neg q0,szR_neg (by omega)]; rfl
 rw [szAcctS x.2.1 left (by omega) (by omega) (hb),szR_pos q0]; dsimp only [Option.bind_some]; rw [ltI_no (by omega)]; dsimp only [cond_false];rw [szR_pos (by omega)];have e:(left - ((wL wAcct x.2.1:Nat):Int))=left - ((wStripe x:Nat):Int):=by omega
 rw [e]
theorem toStripe (x:(Int×(List R92)×Unit)) (h:wStripe x<=1048576):g65 x=some ((),(x,())):=by have hw:wStripe x=wL wAcct x.2.1:=rfl;unfold g65;rw [toAcctS x.2.1 (by omega)];rfl
theorem eqStripe (x:(Int×(List R92)×Unit)) (h:wStripe x<=1099511627776):g73 x x=some ((),((true,()),())):=by have hw:wStripe x=wL wAcct x.2.1:=rfl;unfold g73;simp only [eqI_refl,eqS_refl,Bool.not_true,cond_false,Option.bind_some,beq_self_eq_true,eqAcctS x.2.1 (by omega)]
def wTask (x:((List R5)×Int×(List R3)×Int×Int×Int×Int×Int×(List R5)×Unit)):Nat:=x.1.length + x.2.2.1.length + x.2.2.2.2.2.2.2.2.1.length
def bgTask (x:((List R5)×Int×(List R3)×Int×Int×Int×Int×Int×(List R5)×Unit)):Prop:=x.1.length<=big/\x.2.2.1.length<=big/\x.2.2.2.2.2.2.2.2.1.length<=big
def byTask (x:((List R5)×Int×(List R3)×Int×Int×Int×Int×Int×(List R5)×Unit)):Prop:=(∀ y∈x.1,inR .u8 y.1)/\(∀ y∈x.2.2.2.2.2.2.2.2.1,inR .u8 y.1)
theorem szTask (x:((List R5)×Int×(List R3)×Int×Int×Int×Int×Int×(List R5)×Unit)) (left:Int) (h0:0<=left) (h1:left<=1048576) (hb:bgTask x):g58 x left=some ((),((szR left (wTask x),()),())):=by
 have hw:wTask x=x.1.length + x.2.2.1.length + x.2.2.2.2.2.2.2.2.1.length:=rfl;unfold g58
 try dsimp only
 by_cases q0:((x.1.length:Nat):Int)<=left;rotate_left
 . rw [szByteS x.1 left (by omega) (by omega) (hb.1),szR_neg q0,szR_neg (by omega)]; rfl
 rw [szByteS x.1 left (by omega) (by omega) (hb.1),szR_pos q0]; dsimp only [Option.bind_some]; rw [ltI_no (by omega)]; dsimp only [cond_false];by_cases q1:((x.2.2.1.length:Nat):Int)<=(left - ((x.1.length:Nat):Int));rotate_left
 . rw [szIntS x.2.2.1 (left - ((x.1.length:Nat):Int)) (by omega) (by omega) (hb.2.1),szR_neg q1,szR_neg (by omega)]; rfl
 rw [szIntS x.2.2.1 (left - ((x.1.length:Nat):Int)) (by omega) (by omega) (hb.2.1),szR_pos q1]; dsimp only [Option.bind_some]; rw [ltI_no (by omega)]; dsimp only [cond_false];by_cases q2:((x.2.2.2.2.2.2.2.2.1.length:Nat):Int)<=((left - ((x.1.length:Nat):Int)) - ((x.2.2.1.length:Nat):Int));rotate_left
 . rw [szByteS x.2.2.2.2.2.2.2.2.1 ((left - ((x.1.length:Nat):Int)) - ((x.2.2.1.length:Nat):Int)) (by omega) (by omega) (hb.2.2),szR_neg q2,szR_neg (by omega)]; rfl
 rw [szByteS x.2.2.2.2.2.2.2.2.1 ((left - ((x.1.length:Nat):Int)) - ((x.2.2.1.length:Nat):Int)) (by omega) (by omega) (hb.2.2),szR_pos q2]; dsimp only [Option.bind_some]; rw [ltI_no (by omega)]; dsimp only [cond_false];rw [szR_pos (by omega)];have e:(((left - ((x.1.length:Nat):Int)) - ((x.2.2.1.length:Nat):Int)) - ((x.2.2.2.2.2.2.2.2.1.length:Nat):Int))=left - ((wTask x:Nat):Int):=by omega
 rw [e]
theorem toTask (x:((List R5)×Int×(List R3)×Int×Int×Int×Int×Int×(List R5)×Unit)) (h:wTask x<=1048576):g66 x=some ((),(x,())):=by have hw:wTask x=x.1.length + x.2.2.1.length + x.2.2.2.2.2.2.2.2.1.length:=rfl;unfold g66;rw [toByteS x.1 (by omega)];rw [toIntS x.2.2.1 (by omega)];rw [toByteS x.2.2.2.2.2.2.2.2.1 (by omega)];rfl
theorem eqTask (x:((List R5)×Int×(List R3)×Int×Int×Int×Int×Int×(List R5)×Unit)) (h:wTask x<=1099511627776):g74 x x=some ((),((true,()),())):=by have hw:wTask x=x.1.length + x.2.2.1.length + x.2.2.2.2.2.2.2.2.1.length:=rfl;unfold g74;simp only [eqI_refl,eqS_refl,Bool.not_true,cond_false,Option.bind_some,beq_self_eq_true,eqByteS x.1 (by omega),eqIntS x.2.2.1 (by omega),eqByteS x.2.2.2.2.2.2.2.2.1 (by omega)]
theorem szStripeS_loop (xs:List R84) (hb:xs.length<=big/\∀ y∈xs,bgStripe y) (a:Int) (h0:0<=a) (h1:a<=1048576):l28_0 xs a 0=some (if ((cL wStripe xs:Nat):Int)<=a then .inl (xs,a - (cL wStripe xs:Nat),(xs.length:Int),()) else .inr (-1,())):=by
 have h:=loop_inv (step:=fun (x:(List R84)×Int×Int×Unit)=>r28_0 x.1 x.2.1 x.2.2.1) xs (fun i (a:Int)=>(xs,a,((i:Nat):Int),())) (fun _ x (a:Int)=>bif decide ((wStripe x:Int)<=a) then Sum.inl (a - wStripe x) else .inr (.inr (-1,())))
  (fun a=> .inl (xs,a,(xs.length:Int),())) (fun _ a=>0<=a/\a<=1048576) (a0:=a) ⟨h0,h1⟩ (fun i x a hx ha=>by
    have hmem:=List.mem_of_getElem? hx;have hlt:=lt_of_get hx;show r28_0 xs a (i:Int)=_;unfold r28_0;rw [ltI_in hx,inB_in hx,gt_in _ hx,szStripe x a ha.1 ha.2 (hb.2 x hmem),addW1 (by omega)];dsimp only [cond_true,Option.bind_some];by_cases q:((wStripe x:Nat):Int)<=a
    . rw [szR_pos q,ltI_no (by omega),decide_eq_true q]; rfl
    . rw [szR_neg q,decide_eq_false q]; rfl) (fun i x a a' hx ha hf=>by
    by_cases q:((wStripe x:Nat):Int)<=a
    . rw [decide_eq_true q] at hf;simp only [cond_true,Sum.inl.injEq] at hf;omega
    . rw [decide_eq_false q] at hf;simp at hf) (fun a ha=>by
    show r28_0 xs a (xs.length:Int)=_;unfold r28_0;rw [ltI_out rfl]; rfl)
 rw [goL_sz _ _ _ _ _ _ h0] at h;refine Eq.trans h ?_;split <;> rfl
theorem szStripeS (xs:List R84) (left:Int) (h0:0<=left) (h1:left<=1048576) (hb:xs.length<=big/\∀ y∈xs,bgStripe y):g28 xs left=some ((),((szR left (wL wStripe xs),()),())):=by
 have hw:wL wStripe xs=xs.length + cL wStripe xs:=rfl;unfold g28;dsimp only;rw [szR_len (s:=xs) (left:=left) (by omega) (by omega) hb.1];by_cases q:((xs.length:Nat):Int)<=left
 . rw [ltI_no (by omega)];dsimp only [cond_false];rw [szStripeS_loop xs hb _ (by omega) (by omega)];by_cases q2:((cL wStripe xs:Nat):Int)<=left - (xs.length:Int)
   . rw [if_pos q2,szR_pos (by omega)];dsimp only [Option.bind_some,Sum.elim_inl];have e:left - (xs.length:Int) - (cL wStripe xs:Nat)=left - ((wL wStripe xs:Nat):Int):=by omega
     rw [e]
   . rw [if_neg q2,szR_neg (by omega)]; rfl
 . rw [ltI_yes (by omega),szR_neg (by omega)]; rfl
theorem toStripeS (xs:List R84) (h:wL wStripe xs<=1048576):g35 xs=some ((),((xs,()),())):=by
 have hb:big=140737488355328:=rfl;have hw:wL wStripe xs=xs.length + cL wStripe xs:=rfl;unfold g35;dsimp only;rw [mkB_in (by decide) (by omega),repI_len]
 have h:=loop_inv (step:=fun (x:(List R84)×(List R67)×Int×Unit)=>r35_0 x.1 x.2.1 x.2.2.1) xs (fun i (a:List R84)=>(xs,a ++ List.replicate (xs.length - i) d67,((i:Nat):Int),())) (fun _ x (a:List R84)=>Sum.inl (a ++ [x]))
  (fun a=> .inl (xs,a,(xs.length:Int),())) (fun i a=>a.length=i) (a0:=[]) rfl (fun i x a hx ha=>by
    have hlt:=lt_of_get hx;have hcm:=cL_mem wStripe hx;show r35_0 xs (a ++ List.replicate (xs.length - i) d67) (i:Int)=_;unfold r35_0;obtain ⟨q,hq⟩:∃ q,xs.length - i=q + 1:=⟨xs.length - i - 1,by omega⟩;have hq':xs.length - (i + 1)=q:=by omega
    rw [hq,List.replicate_succ,ltI_in hx,inB_in hx,gt_in _ hx,toStripe x (by omega)];dsimp only [cond_true,Option.bind_some];simp only [inB_mid ha,gt_mid _ ha,stI_mid ha,addW1 (show i<=big by omega),hq',cond_true,List.append_assoc,List.singleton_append]) (fun i x a a' hx ha hf=>by
    simp only [Sum.inl.injEq] at hf;rw [<- hf,List.length_append,ha]; rfl) (fun a ha=>by
    show r35_0 xs (a ++ List.replicate (xs.length - xs.length) d67) (xs.length:Int)=_;unfold r35_0;rw [ltI_out rfl,Nat.sub_self,List.replicate_zero,List.append_nil]; rfl)
 rw [goL_cp] at h;have h':l35_0 xs (List.replicate xs.length d67) 0=_:=h;rw [h']; rfl
theorem eqStripeS (xs:List R67) (h:wL wStripe xs<=1099511627776):g42 xs xs=some ((),((true,()),())):=by
 have hb:big=140737488355328:=rfl;have hw:wL wStripe xs=xs.length + cL wStripe xs:=rfl;unfold g42;rw [eqI_refl];have h:=loop_list (step:=fun (x:(List R67)×(List R67)×Int×Unit)=>r42_0 x.1 x.2.1 x.2.2.1) xs (fun i (_:Unit)=>(xs,xs,((i:Nat):Int),())) (fun _ x _=>Sum.inl ()) (fun _=> .inl (xs,xs,(xs.length:Int),())) (a0:=()) (fun i x a hx=>by
  have hlt:=lt_of_get hx;have hcm:=cL_mem wStripe hx;show r42_0 xs xs (i:Int)=_;unfold r42_0;rw [ltI_in hx,inB_in hx,gt_in _ hx,eqStripe x (by omega),addW1 (by omega)]; rfl) (fun a=>by
  show r42_0 xs xs (xs.length:Int)=_;unfold r42_0;rw [ltI_out rfl]; rfl)
 rw [goL_fold (fun _ a=>a)] at h;have h':l42_0 xs xs 0=_:=h;rw [h']; rfl
theorem szTaskS_loop (xs:List R86) (hb:xs.length<=big/\∀ y∈xs,bgTask y) (a:Int) (h0:0<=a) (h1:a<=1048576):l29_0 xs a 0=some (if ((cL wTask xs:Nat):Int)<=a then .inl (xs,a - (cL wTask xs:Nat),(xs.length:Int),()) else .inr (-1,())):=by
 have h:=loop_inv (step:=fun (x:(List R86)×Int×Int×Unit)=>r29_0 x.1 x.2.1 x.2.2.1) xs (fun i (a:Int)=>(xs,a,((i:Nat):Int),())) (fun _ x (a:Int)=>bif decide ((wTask x:Int)<=a) then Sum.inl (a - wTask x) else .inr (.inr (-1,())))
  (fun a=> .inl (xs,a,(xs.length:Int),())) (fun _ a=>0<=a/\a<=1048576) (a0:=a) ⟨h0,h1⟩ (fun i x a hx ha=>by
    have hmem:=List.mem_of_getElem? hx;have hlt:=lt_of_get hx;show r29_0 xs a (i:Int)=_;unfold r29_0;rw [ltI_in hx,inB_in hx,gt_in _ hx,szTask x a ha.1 ha.2 (hb.2 x hmem),addW1 (by omega)];dsimp only [cond_true,Option.bind_some];by_cases q:((wTask x:Nat):Int)<=a
    . rw [szR_pos q,ltI_no (by omega),decide_eq_true q]; rfl
    . rw [szR_neg q,decide_eq_false q]; rfl) (fun i x a a' hx ha hf=>by
    by_cases q:((wTask x:Nat):Int)<=a
    . rw [decide_eq_true q] at hf;simp only [cond_true,Sum.inl.injEq] at hf;omega
    . rw [decide_eq_false q] at hf;simp at hf) (fun a ha=>by
    show r29_0 xs a (xs.length:Int)=_;unfold r29_0;rw [ltI_out rfl]; rfl)
 rw [goL_sz _ _ _ _ _ _ h0] at h;refine Eq.trans h ?_;split <;> rfl
theorem szTaskS (xs:List R86) (left:Int) (h0:0<=left) (h1:left<=1048576) (hb:xs.length<=big/\∀ y∈xs,bgTask y):g29 xs left=some ((),((szR left (wL wTask xs),()),())):=by
 have hw:wL wTask xs=xs.length + cL wTask xs:=rfl;unfold g29;dsimp only;rw [szR_len (s:=xs) (left:=left) (by omega) (by omega) hb.1];by_cases q:((xs.length:Nat):Int)<=left
 . rw [ltI_no (by omega)];dsimp only [cond_false];rw [szTaskS_loop xs hb _ (by omega) (by omega)];by_cases q2:((cL wTask xs:Nat):Int)<=left - (xs.length:Int)
   . rw [if_pos q2,szR_pos (by omega)];dsimp only [Option.bind_some,Sum.elim_inl];have e:left - (xs.length:Int) - (cL wTask xs:Nat)=left - ((wL wTask xs:Nat):Int):=by omega
     rw [e]
   . rw [if_neg q2,szR_neg (by omega)]; rfl
 . rw [ltI_yes (by omega),szR_neg (by omega)]; rfl
theorem toTaskS (xs:List R86) (h:wL wTask xs<=1048576):g36 xs=some ((),((xs,()),())):=by
 have hb:big=140737488355328:=rfl;have hw:wL wTask xs=xs.length + cL wTask xs:=rfl;unfold g36;dsimp only;rw [mkB_in (by decide) (by omega),repI_len]
 have h:=loop_inv (step:=fun (x:(List R86)×(List R64)×Int×Unit)=>r36_0 x.1 x.2.1 x.2.2.1) xs (fun i (a:List R86)=>(xs,a ++ List.replicate (xs.length - i) d64,((i:Nat):Int),())) (fun _ x (a:List R86)=>Sum.inl (a ++ [x]))
  (fun a=> .inl (xs,a,(xs.length:Int),())) (fun i a=>a.length=i) (a0:=[]) rfl (fun i x a hx ha=>by
    have hlt:=lt_of_get hx;have hcm:=cL_mem wTask hx;show r36_0 xs (a ++ List.replicate (xs.length - i) d64) (i:Int)=_;unfold r36_0;obtain ⟨q,hq⟩:∃ q,xs.length - i=q + 1:=⟨xs.length - i - 1,by omega⟩;have hq':xs.length - (i + 1)=q:=by omega
    rw [hq,List.replicate_succ,ltI_in hx,inB_in hx,gt_in _ hx,toTask x (by omega)];dsimp only [cond_true,Option.bind_some];simp only [inB_mid ha,gt_mid _ ha,stI_mid ha,addW1 (show i<=big by omega),hq',cond_true,List.append_assoc,List.singleton_append]) (fun i x a a' hx ha hf=>by
    simp only [Sum.inl.injEq] at hf;rw [<- hf,List.length_append,ha]; rfl) (fun a ha=>by
    show r36_0 xs (a ++ List.replicate (xs.length - xs.length) d64) (xs.length:Int)=_;unfold r36_0;rw [ltI_out rfl,Nat.sub_self,List.replicate_zero,List.append_nil]; rfl)
 rw [goL_cp] at h;have h':l36_0 xs (List.replicate xs.length d64) 0=_:=h;rw [h']; rfl
theorem eqTaskS (xs:List R64) (h:wL wTask xs<=1099511627776):g43 xs xs=some ((),((true,()),())):=by
 have hb:big=140737488355328:=rfl;have hw:wL wTask xs=xs.length + cL wTask xs:=rfl;unfold g43;rw [eqI_refl];have h:=loop_list (step:=fun (x:(List R64)×(List R64)×Int×Unit)=>r43_0 x.1 x.2.1 x.2.2.1) xs (fun i (_:Unit)=>(xs,xs,((i:Nat):Int),())) (fun _ x _=>Sum.inl ()) (fun _=> .inl (xs,xs,(xs.length:Int),())) (a0:=()) (fun i x a hx=>by
  have hlt:=lt_of_get hx;have hcm:=cL_mem wTask hx;show r43_0 xs xs (i:Int)=_;unfold r43_0;rw [ltI_in hx,inB_in hx,gt_in _ hx,eqTask x (by omega),addW1 (by omega)]; rfl) (fun a=>by
  show r43_0 xs xs (xs.length:Int)=_;unfold r43_0;rw [ltI_out rfl]; rfl)
 rw [goL_fold (fun _ a=>a)] at h;have h':l43_0 xs xs 0=_:=h;rw [h']; rfl
def wWorld (x:((List R84)×Int×Int×(List R86)×Unit)):Nat:=wL wStripe x.1 + wL wTask x.2.2.2.1
def bgWorld (x:((List R84)×Int×Int×(List R86)×Unit)):Prop:=(x.1.length<=big/\∀ y∈x.1,bgStripe y)/\(x.2.2.2.1.length<=big/\∀ y∈x.2.2.2.1,bgTask y)
def byWorld (x:((List R84)×Int×Int×(List R86)×Unit)):Prop:=(∀ y∈x.1,byStripe y)/\(∀ y∈x.2.2.2.1,byTask y)
theorem szWorld (x:((List R84)×Int×Int×(List R86)×Unit)) (left:Int) (h0:0<=left) (h1:left<=1048576) (hb:bgWorld x):g8 x left=some ((),((szR left (wWorld x),()),())):=by
 have hw:wWorld x=wL wStripe x.1 + wL wTask x.2.2.2.1:=rfl;unfold g8
 try dsimp only
 by_cases q0:((wL wStripe x.1:Nat):Int)<=left;rotate_left
 . rw [szStripeS x.1 left (by omega) (by omega) (hb.1),szR_neg q0,szR_neg (by omega)]; rfl
 rw [szStripeS x.1 left (by omega) (by omega) (hb.1),szR_pos q0]; dsimp only [Option.bind_some]; rw [ltI_no (by omega)]; dsimp only [cond_false];by_cases q1:((wL wTask x.2.2.2.1:Nat):Int)<=(left - ((wL wStripe x.1:Nat):Int));rotate_left
 . rw [szTaskS x.2.2.2.1 (left - ((wL wStripe x.1:Nat):Int)) (by omega) (by omega) (hb.2),szR_neg q1,szR_neg (by omega)]; rfl
 rw [szTaskS x.2.2.2.1 (left - ((wL wStripe x.1:Nat):Int)) (by omega) (by omega) (hb.2),szR_pos q1]; dsimp only [Option.bind_some]; rw [ltI_no (by omega)]; dsimp only [cond_false];rw [szR_pos (by omega)];have e:((left - ((wL wStripe x.1:Nat):Int)) - ((wL wTask x.2.2.2.1:Nat):Int))=left - ((wWorld x:Nat):Int):=by omega
 rw [e]
theorem toWorld (x:((List R84)×Int×Int×(List R86)×Unit)) (h:wWorld x<=1048576):g10 x=some ((),(x,())):=by have hw:wWorld x=wL wStripe x.1 + wL wTask x.2.2.2.1:=rfl;unfold g10;rw [toStripeS x.1 (by omega)];rw [toTaskS x.2.2.2.1 (by omega)];rfl
theorem eqWorld (x:((List R84)×Int×Int×(List R86)×Unit)) (h:wWorld x<=1099511627776):g12 x x=some ((),((true,()),())):=by have hw:wWorld x=wL wStripe x.1 + wL wTask x.2.2.2.1:=rfl;unfold g12;simp only [eqI_refl,eqS_refl,Bool.not_true,cond_false,Option.bind_some,beq_self_eq_true,eqStripeS x.1 (by omega),eqTaskS x.2.2.2.1 (by omega)]
end Go.Av
