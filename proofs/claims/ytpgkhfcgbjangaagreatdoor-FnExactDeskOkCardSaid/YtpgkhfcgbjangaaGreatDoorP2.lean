/- Part of a proof that the law FnExactDeskOk answers true for every input: the printed functions of this program and their plain laws. No conditions beyond the statement. -/
import Derived.Test.YtpgkhfcgbjangaaGreatDoorP1
import Derived.Test.YtpgkhfcgbjangaaGreatDoorFw4
set_option maxRecDepth 100000
set_option maxHeartbeats 4000000
namespace Go.Av
def bU (x:((List UInt8)×Int×Int×Unit)):Nat:=x.1.length
def vc (x:((List UInt8)×Int×Int×Unit)):Prop:=x.1.length<=aW
theorem OB (x:((List UInt8)×Int×Int×Unit)) (left:Int) (h0:0<=left) (h1:left<=1048576) (hb:vc x):KP x left=some ((),((zB left (bU x),()),())):=by
 have hw:bU x=x.1.length:=rfl;unfold KP
 try dsimp only
 by_cases q0:((x.1.length:Nat):Int)<=left;rotate_left
 . rw [dv (s:=x.1) (left:=left) (by omega) (by omega) hb]; rw [aF (by omega),aP (by omega)]; rfl
 rw [dv (s:=x.1) (left:=left) (by omega) (by omega) hb]; rw [ax (by omega)]; dsimp only [cond_false];rw [bd (by omega)];have e:(left - ((x.1.length:Nat):Int))=left - ((bU x:Nat):Int):=by omega
 rw [e]
theorem OA (x:((List UInt8)×Int×Int×Unit)) (h:bU x<=1048576):JU x=some ((),(x,())):=by have hw:bU x=x.1.length:=rfl;unfold JU;rfl
theorem P7 (x:((List UInt8)×Int×Int×Unit)) (h:bU x<=1099511627776):Ke x x=some ((),((true,()),())):=by have hw:bU x=x.1.length:=rfl;unfold Ke;simp only [bp,dx,Bool.not_true,cond_false,Option.bind_some,beq_self_eq_true]
theorem qX (x:(List R3)) (left:Int) (h0:0<=left) (h1:left<=1048576) (hb:x.length<=aW):Qk x left=some ((),((zB left x.length,()),())):=by
 unfold Qk;dsimp only;by_cases q:((x.length:Nat):Int)<=left
 . rw [dv (s:=x) (left:=left) (by omega) (by omega) hb,ax (by omega),bd q]; rfl
 . rw [dv (s:=x) (left:=left) (by omega) (by omega) hb,aF (by omega),aP q]; rfl
theorem BE (xs:List R3) (h:xs.length<=1048576):Qj xs=some ((),((xs,()),())):=by
 have hb:aW=140737488355328:=rfl;unfold Qj;dsimp only;rw [oh (by decide) (by omega),jz]
 have h:=a6 (step:=fun (x:(List R3)×(List R3)×Int×Unit)=>wx x.1 x.2.1 x.2.2.1) xs (fun i (a:List R3)=>(xs,a ++ List.replicate (xs.length - i) d3,((i:Nat):Int),())) (fun _ x (a:List R3)=>Sum.inl (a ++ [x]))
  (fun a=> .inl (xs,a,(xs.length:Int),())) (fun i a=>a.length=i) (a0:=[]) rfl (fun i x a hx ha=>by
    have hlt:=aj hx;show wx xs (a ++ List.replicate (xs.length - i) d3) (i:Int)=_;unfold wx;obtain ⟨q,hq⟩:∃ q,xs.length - i=q + 1:=⟨xs.length - i - 1,by omega⟩;have hq':xs.length - (i + 1)=q:=by omega
    rw [hq,List.replicate_succ,aG hx,aC hx,ly ha,aX _ hx,lx ha,aQ (by omega),hq'];dsimp only [cond_true];rw [List.append_assoc]; rfl) (fun i x a a' hx ha hf=>by
    simp only [Sum.inl.injEq] at hf;rw [<- hf,List.length_append,ha]; rfl) (fun a ha=>by
    show wx xs (a ++ List.replicate (xs.length - xs.length) d3) (xs.length:Int)=_;unfold wx;rw [aw rfl,Nat.sub_self,List.replicate_zero,List.append_nil]; rfl)
 rw [jk] at h;have h':Me xs (List.replicate xs.length d3) 0=_:=h;rw [h']; rfl
theorem B6 (xs:List R3) (h:xs.length<=1099511627776):g24 xs xs=some ((),((true,()),())):=by
 have hb:aW=140737488355328:=rfl;unfold g24;rw [bp];have h:=aE (step:=fun (x:(List R3)×(List R3)×Int×Unit)=>uN x.1 x.2.1 x.2.2.1) xs (fun i (_:Unit)=>(xs,xs,((i:Nat):Int),())) (fun _ x _=>Sum.inl ()) (fun _=> .inl (xs,xs,(xs.length:Int),())) (a0:=()) (fun i x a hx=>by
  have hlt:=aj hx;show uN xs xs (i:Int)=_;unfold uN;rw [aG hx,aC hx,aX _ hx,bp,aQ (by omega)]; rfl) (fun a=>by
  show uN xs xs (xs.length:Int)=_;unfold uN;rw [aw rfl]; rfl)
 rw [bQ (fun _ a=>a)] at h;have h':NH xs xs 0=_:=h;rw [h']; rfl
def gM (x:(Int×Int×(List R3)×(List R3)×Unit)):Nat:=x.2.2.1.length + x.2.2.2.1.length
def Jy (x:(Int×Int×(List R3)×(List R3)×Unit)):Prop:=x.2.2.1.length<=aW/\x.2.2.2.1.length<=aW
theorem JC (x:(Int×Int×(List R3)×(List R3)×Unit)) (left:Int) (h0:0<=left) (h1:left<=1048576) (hb:Jy x):Ly x left=some ((),((zB left (gM x),()),())):=by
 have hw:gM x=x.2.2.1.length + x.2.2.2.1.length:=rfl;unfold Ly
 try dsimp only
 by_cases q0:((x.2.2.1.length:Nat):Int)<=left;rotate_left
 . rw [qX x.2.2.1 left (by omega) (by omega) (hb.1),aP q0,aP (by omega)]; rfl
 rw [qX x.2.2.1 left (by omega) (by omega) (hb.1),bd q0]; dsimp only [Option.bind_some]; rw [ax (by omega)]; dsimp only [cond_false];by_cases q1:((x.2.2.2.1.length:Nat):Int)<=(left - ((x.2.2.1.length:Nat):Int));rotate_left
 . rw [qX x.2.2.2.1 (left - ((x.2.2.1.length:Nat):Int)) (by omega) (by omega) (hb.2),aP q1,aP (by omega)]; rfl
 rw [qX x.2.2.2.1 (left - ((x.2.2.1.length:Nat):Int)) (by omega) (by omega) (hb.2),bd q1]; dsimp only [Option.bind_some]; rw [ax (by omega)]; dsimp only [cond_false];rw [bd (by omega)];have e:((left - ((x.2.2.1.length:Nat):Int)) - ((x.2.2.2.1.length:Nat):Int))=left - ((gM x:Nat):Int):=by omega
 rw [e]
theorem toRing (x:(Int×Int×(List R3)×(List R3)×Unit)) (h:gM x<=1048576):Kx x=some ((),(x,())):=by have hw:gM x=x.2.2.1.length + x.2.2.2.1.length:=rfl;unfold Kx;rw [BE x.2.2.1 (by omega)];rw [BE x.2.2.2.1 (by omega)];rfl
theorem PV (x:(Int×Int×(List R3)×(List R3)×Unit)) (h:gM x<=1099511627776):KK x x=some ((),((true,()),())):=by have hw:gM x=x.2.2.1.length + x.2.2.2.1.length:=rfl;unfold KK;simp only [bp,dx,Bool.not_true,cond_false,Option.bind_some,beq_self_eq_true,B6 x.2.2.1 (by omega),B6 x.2.2.2.1 (by omega)]
theorem na (x:(List R5)) (left:Int) (h0:0<=left) (h1:left<=1048576) (hb:x.length<=aW):Ql x left=some ((),((zB left x.length,()),())):=by
 unfold Ql;dsimp only;by_cases q:((x.length:Nat):Int)<=left
 . rw [dv (s:=x) (left:=left) (by omega) (by omega) hb,ax (by omega),bd q]; rfl
 . rw [dv (s:=x) (left:=left) (by omega) (by omega) hb,aF (by omega),aP q]; rfl
theorem zw (xs:List R5) (h:xs.length<=1048576):Qo xs=some ((),((xs,()),())):=by
 have hb:aW=140737488355328:=rfl;unfold Qo;dsimp only;rw [oh (by decide) (by omega),jz]
 have h:=a6 (step:=fun (x:(List R5)×(List R5)×Int×Unit)=>uU x.1 x.2.1 x.2.2.1) xs (fun i (a:List R5)=>(xs,a ++ List.replicate (xs.length - i) d5,((i:Nat):Int),())) (fun _ x (a:List R5)=>Sum.inl (a ++ [x]))
  (fun a=> .inl (xs,a,(xs.length:Int),())) (fun i a=>a.length=i) (a0:=[]) rfl (fun i x a hx ha=>by
    have hlt:=aj hx;show uU xs (a ++ List.replicate (xs.length - i) d5) (i:Int)=_;unfold uU;obtain ⟨q,hq⟩:∃ q,xs.length - i=q + 1:=⟨xs.length - i - 1,by omega⟩;have hq':xs.length - (i + 1)=q:=by omega
    rw [hq,List.replicate_succ,aG hx,aC hx,ly ha,aX _ hx,lx ha,aQ (by omega),hq'];dsimp only [cond_true];rw [List.append_assoc]; rfl) (fun i x a a' hx ha hf=>by
    simp only [Sum.inl.injEq] at hf;rw [<- hf,List.length_append,ha]; rfl) (fun a ha=>by
    show uU xs (a ++ List.replicate (xs.length - xs.length) d5) (xs.length:Int)=_;unfold uU;rw [aw rfl,Nat.sub_self,List.replicate_zero,List.append_nil]; rfl)
 rw [jk] at h;have h':Mm xs (List.replicate xs.length d5) 0=_:=h;rw [h']; rfl
theorem yy (xs:List R5) (h:xs.length<=1099511627776):Qm xs xs=some ((),((true,()),())):=by
 have hb:aW=140737488355328:=rfl;unfold Qm;rw [bp];have h:=aE (step:=fun (x:(List R5)×(List R5)×Int×Unit)=>tZ x.1 x.2.1 x.2.2.1) xs (fun i (_:Unit)=>(xs,xs,((i:Nat):Int),())) (fun _ x _=>Sum.inl ()) (fun _=> .inl (xs,xs,(xs.length:Int),())) (a0:=()) (fun i x a hx=>by
  have hlt:=aj hx;show tZ xs xs (i:Int)=_;unfold tZ;rw [aG hx,aC hx,aX _ hx,bp,aQ (by omega)]; rfl) (fun a=>by
  show tZ xs xs (xs.length:Int)=_;unfold tZ;rw [aw rfl]; rfl)
 rw [bQ (fun _ a=>a)] at h;have h':Na xs xs 0=_:=h;rw [h']; rfl
def cD (x:((List UInt8)×(List UInt8)×(List R5)×Unit)):Nat:=x.1.length + x.2.1.length + x.2.2.1.length
def vL (x:((List UInt8)×(List UInt8)×(List R5)×Unit)):Prop:=x.1.length<=aW/\x.2.1.length<=aW/\x.2.2.1.length<=aW
def Iw (x:((List UInt8)×(List UInt8)×(List R5)×Unit)):Prop:=(∀ y∈x.2.2.1,lI .u8 y.1)
theorem PY (x:((List UInt8)×(List UInt8)×(List R5)×Unit)) (left:Int) (h0:0<=left) (h1:left<=1048576) (hb:vL x):L4 x left=some ((),((zB left (cD x),()),())):=by
 have hw:cD x=x.1.length + x.2.1.length + x.2.2.1.length:=rfl;unfold L4
 try dsimp only
 by_cases q0:((x.1.length:Nat):Int)<=left;rotate_left
 . rw [dv (s:=x.1) (left:=left) (by omega) (by omega) hb.1]; rw [aF (by omega),aP (by omega)]; rfl
 rw [dv (s:=x.1) (left:=left) (by omega) (by omega) hb.1]; rw [ax (by omega)]; dsimp only [cond_false];by_cases q1:((x.2.1.length:Nat):Int)<=(left - ((x.1.length:Nat):Int));rotate_left
 . rw [dv (s:=x.2.1) (left:=(left - ((x.1.length:Nat):Int))) (by omega) (by omega) hb.2.1]; rw [aF (by omega),aP (by omega)]; rfl
 rw [dv (s:=x.2.1) (left:=(left - ((x.1.length:Nat):Int))) (by omega) (by omega) hb.2.1]; rw [ax (by omega)]; dsimp only [cond_false];by_cases q2:((x.2.2.1.length:Nat):Int)<=((left - ((x.1.length:Nat):Int)) - ((x.2.1.length:Nat):Int));rotate_left
 . rw [na x.2.2.1 ((left - ((x.1.length:Nat):Int)) - ((x.2.1.length:Nat):Int)) (by omega) (by omega) (hb.2.2),aP q2,aP (by omega)]; rfl
 rw [na x.2.2.1 ((left - ((x.1.length:Nat):Int)) - ((x.2.1.length:Nat):Int)) (by omega) (by omega) (hb.2.2),bd q2]; dsimp only [Option.bind_some]; rw [ax (by omega)]; dsimp only [cond_false];rw [bd (by omega)];have e:(((left - ((x.1.length:Nat):Int)) - ((x.2.1.length:Nat):Int)) - ((x.2.2.1.length:Nat):Int))=left - ((cD x:Nat):Int):=by omega
 rw [e]
theorem PZ (x:((List UInt8)×(List UInt8)×(List R5)×Unit)) (h:cD x<=1048576):Lj x=some ((),(x,())):=by have hw:cD x=x.1.length + x.2.1.length + x.2.2.1.length:=rfl;unfold Lj;rw [zw x.2.2.1 (by omega)];rfl
theorem NP (x:((List UInt8)×(List UInt8)×(List R5)×Unit)) (h:cD x<=1099511627776):L5 x x=some ((),((true,()),())):=by have hw:cD x=x.1.length + x.2.1.length + x.2.2.1.length:=rfl;unfold L5;simp only [bp,dx,Bool.not_true,cond_false,Option.bind_some,beq_self_eq_true,yy x.2.2.1 (by omega)]
theorem zv (xs:List lZ) (hb:xs.length<=aW/\∀ y∈xs,vc y) (a:Int) (h0:0<=a) (h1:a<=1048576):HN xs a 0=some (if ((cL bU xs:Nat):Int)<=a then .inl (xs,a - (cL bU xs:Nat),(xs.length:Int),()) else .inr (-1,())):=by
 have h:=a6 (step:=fun (x:(List lZ)×Int×Int×Unit)=>nw x.1 x.2.1 x.2.2.1) xs (fun i (a:Int)=>(xs,a,((i:Nat):Int),())) (fun _ x (a:Int)=>bif decide ((bU x:Int)<=a) then Sum.inl (a - bU x) else .inr (.inr (-1,())))
  (fun a=> .inl (xs,a,(xs.length:Int),())) (fun _ a=>0<=a/\a<=1048576) (a0:=a) ⟨h0,h1⟩ (fun i x a hx ha=>by
    have hmem:=List.mem_of_getElem? hx;have hlt:=aj hx;show nw xs a (i:Int)=_;unfold nw;rw [aG hx,aC hx,aX _ hx,OB x a ha.1 ha.2 (hb.2 x hmem),aQ (by omega)];dsimp only [cond_true,Option.bind_some];by_cases q:((bU x:Nat):Int)<=a
    . rw [bd q,ax (by omega),decide_eq_true q]; rfl
    . rw [aP q,decide_eq_false q]; rfl) (fun i x a a' hx ha hf=>by
    by_cases q:((bU x:Nat):Int)<=a
    . rw [decide_eq_true q] at hf;simp only [cond_true,Sum.inl.injEq] at hf;omega
    . rw [decide_eq_false q] at hf;simp at hf) (fun a ha=>by
    show nw xs a (xs.length:Int)=_;unfold nw;rw [aw rfl]; rfl)
 rw [rm _ _ _ _ _ _ h0] at h;refine Eq.trans h ?_;split <;> rfl
theorem Eg (xs:List lZ) (left:Int) (h0:0<=left) (h1:left<=1048576) (hb:xs.length<=aW/\∀ y∈xs,vc y):J3 xs left=some ((),((zB left (wL bU xs),()),())):=by
 have hw:wL bU xs=xs.length + cL bU xs:=rfl;unfold J3;dsimp only;rw [dv (s:=xs) (left:=left) (by omega) (by omega) hb.1];by_cases q:((xs.length:Nat):Int)<=left
 . rw [ax (by omega)];dsimp only [cond_false];rw [zv xs hb _ (by omega) (by omega)];by_cases q2:((cL bU xs:Nat):Int)<=left - (xs.length:Int)
   . rw [if_pos q2,bd (by omega)];dsimp only [Option.bind_some,Sum.elim_inl];have e:left - (xs.length:Int) - (cL bU xs:Nat)=left - ((wL bU xs:Nat):Int):=by omega
     rw [e]
   . rw [if_neg q2,aP (by omega)]; rfl
 . rw [aF (by omega),aP (by omega)]; rfl
theorem Kc (xs:List lZ) (h:wL bU xs<=1048576):Lx xs=some ((),((xs,()),())):=by
 have hb:aW=140737488355328:=rfl;have hw:wL bU xs=xs.length + cL bU xs:=rfl;unfold Lx;dsimp only;rw [oh (by decide) (by omega),jz]
 have h:=a6 (step:=fun (x:(List lZ)×(List di)×Int×Unit)=>oK x.1 x.2.1 x.2.2.1) xs (fun i (a:List lZ)=>(xs,a ++ List.replicate (xs.length - i) d157,((i:Nat):Int),())) (fun _ x (a:List lZ)=>Sum.inl (a ++ [x]))
  (fun a=> .inl (xs,a,(xs.length:Int),())) (fun i a=>a.length=i) (a0:=[]) rfl (fun i x a hx ha=>by
    have hlt:=aj hx;have hcm:=iz bU hx;show oK xs (a ++ List.replicate (xs.length - i) d157) (i:Int)=_;unfold oK;obtain ⟨q,hq⟩:∃ q,xs.length - i=q + 1:=⟨xs.length - i - 1,by omega⟩;have hq':xs.length - (i + 1)=q:=by omega
    rw [hq,List.replicate_succ,aG hx,aC hx,aX _ hx,OA x (by omega)];dsimp only [cond_true,Option.bind_some];simp only [ly ha,uV _ ha,lx ha,aQ (show i<=aW by omega),hq',cond_true,List.append_assoc,List.singleton_append]) (fun i x a a' hx ha hf=>by
    simp only [Sum.inl.injEq] at hf;rw [<- hf,List.length_append,ha]; rfl) (fun a ha=>by
    show oK xs (a ++ List.replicate (xs.length - xs.length) d157) (xs.length:Int)=_;unfold oK;rw [aw rfl,Nat.sub_self,List.replicate_zero,List.append_nil]; rfl)
 rw [jk] at h;have h':IK xs (List.replicate xs.length d157) 0=_:=h;rw [h']; rfl
theorem LO (xs:List di) (h:wL bU xs<=1099511627776):LA xs xs=some ((),((true,()),())):=by
 have hb:aW=140737488355328:=rfl;have hw:wL bU xs=xs.length + cL bU xs:=rfl;unfold LA;rw [bp];have h:=aE (step:=fun (x:(List di)×(List di)×Int×Unit)=>nZ x.1 x.2.1 x.2.2.1) xs (fun i (_:Unit)=>(xs,xs,((i:Nat):Int),())) (fun _ x _=>Sum.inl ()) (fun _=> .inl (xs,xs,(xs.length:Int),())) (a0:=()) (fun i x a hx=>by
  have hlt:=aj hx;have hcm:=iz bU hx;show nZ xs xs (i:Int)=_;unfold nZ;rw [aG hx,aC hx,aX _ hx,P7 x (by omega),aQ (by omega)]; rfl) (fun a=>by
  show nZ xs xs (xs.length:Int)=_;unfold nZ;rw [aw rfl]; rfl)
 rw [bQ (fun _ a=>a)] at h;have h':Ie xs xs 0=_:=h;rw [h']; rfl
theorem zh (xs:List lF) (hb:xs.length<=aW/\∀ y∈xs,vL y) (a:Int) (h0:0<=a) (h1:a<=1048576):GK xs a 0=some (if ((cL cD xs:Nat):Int)<=a then .inl (xs,a - (cL cD xs:Nat),(xs.length:Int),()) else .inr (-1,())):=by
 have h:=a6 (step:=fun (x:(List lF)×Int×Int×Unit)=>oU x.1 x.2.1 x.2.2.1) xs (fun i (a:Int)=>(xs,a,((i:Nat):Int),())) (fun _ x (a:Int)=>bif decide ((cD x:Int)<=a) then Sum.inl (a - cD x) else .inr (.inr (-1,())))
  (fun a=> .inl (xs,a,(xs.length:Int),())) (fun _ a=>0<=a/\a<=1048576) (a0:=a) ⟨h0,h1⟩ (fun i x a hx ha=>by
    have hmem:=List.mem_of_getElem? hx;have hlt:=aj hx;show oU xs a (i:Int)=_;unfold oU;rw [aG hx,aC hx,aX _ hx,PY x a ha.1 ha.2 (hb.2 x hmem),aQ (by omega)];dsimp only [cond_true,Option.bind_some];by_cases q:((cD x:Nat):Int)<=a
    . rw [bd q,ax (by omega),decide_eq_true q]; rfl
    . rw [aP q,decide_eq_false q]; rfl) (fun i x a a' hx ha hf=>by
    by_cases q:((cD x:Nat):Int)<=a
    . rw [decide_eq_true q] at hf;simp only [cond_true,Sum.inl.injEq] at hf;omega
    . rw [decide_eq_false q] at hf;simp at hf) (fun a ha=>by
    show oU xs a (xs.length:Int)=_;unfold oU;rw [aw rfl]; rfl)
 rw [rm _ _ _ _ _ _ h0] at h;refine Eq.trans h ?_;split <;> rfl
theorem DR (xs:List lF) (left:Int) (h0:0<=left) (h1:left<=1048576) (hb:xs.length<=aW/\∀ y∈xs,vL y):Kt xs left=some ((),((zB left (wL cD xs),()),())):=by
 have hw:wL cD xs=xs.length + cL cD xs:=rfl;unfold Kt;dsimp only;rw [dv (s:=xs) (left:=left) (by omega) (by omega) hb.1];by_cases q:((xs.length:Nat):Int)<=left
 . rw [ax (by omega)];dsimp only [cond_false];rw [zh xs hb _ (by omega) (by omega)];by_cases q2:((cL cD xs:Nat):Int)<=left - (xs.length:Int)
   . rw [if_pos q2,bd (by omega)];dsimp only [Option.bind_some,Sum.elim_inl];have e:left - (xs.length:Int) - (cL cD xs:Nat)=left - ((wL cD xs:Nat):Int):=by omega
     rw [e]
   . rw [if_neg q2,aP (by omega)]; rfl
 . rw [aF (by omega),aP (by omega)]; rfl
theorem K1 (xs:List lF) (h:wL cD xs<=1048576):J1 xs=some ((),((xs,()),())):=by
 have hb:aW=140737488355328:=rfl;have hw:wL cD xs=xs.length + cL cD xs:=rfl;unfold J1;dsimp only;rw [oh (by decide) (by omega),jz]
 have h:=a6 (step:=fun (x:(List lF)×(List dh)×Int×Unit)=>nT x.1 x.2.1 x.2.2.1) xs (fun i (a:List lF)=>(xs,a ++ List.replicate (xs.length - i) d160,((i:Nat):Int),())) (fun _ x (a:List lF)=>Sum.inl (a ++ [x]))
  (fun a=> .inl (xs,a,(xs.length:Int),())) (fun i a=>a.length=i) (a0:=[]) rfl (fun i x a hx ha=>by
    have hlt:=aj hx;have hcm:=iz cD hx;show nT xs (a ++ List.replicate (xs.length - i) d160) (i:Int)=_;unfold nT;obtain ⟨q,hq⟩:∃ q,xs.length - i=q + 1:=⟨xs.length - i - 1,by omega⟩;have hq':xs.length - (i + 1)=q:=by omega
    rw [hq,List.replicate_succ,aG hx,aC hx,aX _ hx,PZ x (by omega)];dsimp only [cond_true,Option.bind_some];simp only [ly ha,uV _ ha,lx ha,aQ (show i<=aW by omega),hq',cond_true,List.append_assoc,List.singleton_append]) (fun i x a a' hx ha hf=>by
    simp only [Sum.inl.injEq] at hf;rw [<- hf,List.length_append,ha]; rfl) (fun a ha=>by
    show nT xs (a ++ List.replicate (xs.length - xs.length) d160) (xs.length:Int)=_;unfold nT;rw [aw rfl,Nat.sub_self,List.replicate_zero,List.append_nil]; rfl)
 rw [jk] at h;have h':Ix xs (List.replicate xs.length d160) 0=_:=h;rw [h']; rfl
theorem K4 (xs:List dh) (h:wL cD xs<=1099511627776):KN xs xs=some ((),((true,()),())):=by
 have hb:aW=140737488355328:=rfl;have hw:wL cD xs=xs.length + cL cD xs:=rfl;unfold KN;rw [bp];have h:=aE (step:=fun (x:(List dh)×(List dh)×Int×Unit)=>oE x.1 x.2.1 x.2.2.1) xs (fun i (_:Unit)=>(xs,xs,((i:Nat):Int),())) (fun _ x _=>Sum.inl ()) (fun _=> .inl (xs,xs,(xs.length:Int),())) (a0:=()) (fun i x a hx=>by
  have hlt:=aj hx;have hcm:=iz cD hx;show oE xs xs (i:Int)=_;unfold oE;rw [aG hx,aC hx,aX _ hx,NP x (by omega),aQ (by omega)]; rfl) (fun a=>by
  show oE xs xs (xs.length:Int)=_;unfold oE;rw [aw rfl]; rfl)
 rw [bQ (fun _ a=>a)] at h;have h':HY xs xs 0=_:=h;rw [h']; rfl
def bw (x:((List UInt8)×Int×Int×Int×Int×(List di)×Int×Int×(List R3)×(List R3)×(List dh)×Unit)):Nat:=x.1.length + wL bU x.2.2.2.2.2.1 + gM (x.2.2.2.2.2.2.1,x.2.2.2.2.2.2.2.1,x.2.2.2.2.2.2.2.2.1,x.2.2.2.2.2.2.2.2.2.1,()) + wL cD x.2.2.2.2.2.2.2.2.2.2.1
def qQ (x:((List UInt8)×Int×Int×Int×Int×(List di)×Int×Int×(List R3)×(List R3)×(List dh)×Unit)):Prop:=x.1.length<=aW/\(x.2.2.2.2.2.1.length<=aW/\∀ y∈x.2.2.2.2.2.1,vc y)/\Jy (x.2.2.2.2.2.2.1,x.2.2.2.2.2.2.2.1,x.2.2.2.2.2.2.2.2.1,x.2.2.2.2.2.2.2.2.2.1,())/\(x.2.2.2.2.2.2.2.2.2.2.1.length<=aW/\∀ y∈x.2.2.2.2.2.2.2.2.2.2.1,vL y)
def CL (x:((List UInt8)×Int×Int×Int×Int×(List di)×Int×Int×(List R3)×(List R3)×(List dh)×Unit)):Prop:=(∀ y∈x.2.2.2.2.2.2.2.2.2.2.1,Iw y)
theorem PX (x:((List UInt8)×Int×Int×Int×Int×(List di)×Int×Int×(List R3)×(List R3)×(List dh)×Unit)) (left:Int) (h0:0<=left) (h1:left<=1048576) (hb:qQ x):Ur x left=some ((),((zB left (bw x),()),())):=by
 have hw:bw x=x.1.length + wL bU x.2.2.2.2.2.1 + gM (x.2.2.2.2.2.2.1,x.2.2.2.2.2.2.2.1,x.2.2.2.2.2.2.2.2.1,x.2.2.2.2.2.2.2.2.2.1,()) + wL cD x.2.2.2.2.2.2.2.2.2.2.1:=rfl;unfold Ur
 try dsimp only
 by_cases q0:((x.1.length:Nat):Int)<=left;rotate_left
 . rw [dv (s:=x.1) (left:=left) (by omega) (by omega) hb.1]; rw [aF (by omega),aP (by omega)]; rfl
 rw [dv (s:=x.1) (left:=left) (by omega) (by omega) hb.1]; rw [ax (by omega)]; dsimp only [cond_false];by_cases q1:((wL bU x.2.2.2.2.2.1:Nat):Int)<=(left - ((x.1.length:Nat):Int));rotate_left
 . rw [Eg x.2.2.2.2.2.1 (left - ((x.1.length:Nat):Int)) (by omega) (by omega) (hb.2.1),aP q1,aP (by omega)]; rfl
 rw [Eg x.2.2.2.2.2.1 (left - ((x.1.length:Nat):Int)) (by omega) (by omega) (hb.2.1),bd q1]; dsimp only [Option.bind_some]; rw [ax (by omega)]; dsimp only [cond_false];by_cases q2:((gM (x.2.2.2.2.2.2.1,x.2.2.2.2.2.2.2.1,x.2.2.2.2.2.2.2.2.1,x.2.2.2.2.2.2.2.2.2.1,()):Nat):Int)<=((left - ((x.1.length:Nat):Int)) - ((wL bU x.2.2.2.2.2.1:Nat):Int));rotate_left
 . rw [JC (x.2.2.2.2.2.2.1,x.2.2.2.2.2.2.2.1,x.2.2.2.2.2.2.2.2.1,x.2.2.2.2.2.2.2.2.2.1,()) ((left - ((x.1.length:Nat):Int)) - ((wL bU x.2.2.2.2.2.1:Nat):Int)) (by omega) (by omega) (hb.2.2.1),aP q2,aP (by omega)]; rfl
 rw [JC (x.2.2.2.2.2.2.1,x.2.2.2.2.2.2.2.1,x.2.2.2.2.2.2.2.2.1,x.2.2.2.2.2.2.2.2.2.1,()) ((left - ((x.1.length:Nat):Int)) - ((wL bU x.2.2.2.2.2.1:Nat):Int)) (by omega) (by omega) (hb.2.2.1),bd q2]; dsimp only [Option.bind_some]; rw [ax (by omega)]; dsimp only [cond_false];by_cases q3:((wL cD x.2.2.2.2.2.2.2.2.2.2.1:Nat):Int)<=(((left - ((x.1.length:Nat):Int)) - ((wL bU x.2.2.2.2.2.1:Nat):Int)) - ((gM (x.2.2.2.2.2.2.1,x.2.2.2.2.2.2.2.1,x.2.2.2.2.2.2.2.2.1,x.2.2.2.2.2.2.2.2.2.1,()):Nat):Int));rotate_left
 . rw [DR x.2.2.2.2.2.2.2.2.2.2.1 (((left - ((x.1.length:Nat):Int)) - ((wL bU x.2.2.2.2.2.1:Nat):Int)) - ((gM (x.2.2.2.2.2.2.1,x.2.2.2.2.2.2.2.1,x.2.2.2.2.2.2.2.2.1,x.2.2.2.2.2.2.2.2.2.1,()):Nat):Int)) (by omega) (by omega) (hb.2.2.2),aP q3,aP (by omega)]; rfl
 rw [DR x.2.2.2.2.2.2.2.2.2.2.1 (((left - ((x.1.length:Nat):Int)) - ((wL bU x.2.2.2.2.2.1:Nat):Int)) - ((gM (x.2.2.2.2.2.2.1,x.2.2.2.2.2.2.2.1,x.2.2.2.2.2.2.2.2.1,x.2.2.2.2.2.2.2.2.2.1,()):Nat):Int)) (by omega) (by omega) (hb.2.2.2),bd q3]; dsimp only [Option.bind_some]; rw [ax (by omega)]; dsimp only [cond_false];rw [bd (by omega)];have e:((((left - ((x.1.length:Nat):Int)) - ((wL bU x.2.2.2.2.2.1:Nat):Int)) - ((gM (x.2.2.2.2.2.2.1,x.2.2.2.2.2.2.2.1,x.2.2.2.2.2.2.2.2.1,x.2.2.2.2.2.2.2.2.2.1,()):Nat):Int)) - ((wL cD x.2.2.2.2.2.2.2.2.2.2.1:Nat):Int))=left - ((bw x:Nat):Int):=by omega
 rw [e]
theorem PE (x:((List UInt8)×Int×Int×Int×Int×(List di)×Int×Int×(List R3)×(List R3)×(List dh)×Unit)) (h:bw x<=1048576):KI x=some ((),(x,())):=by have hw:bw x=x.1.length + wL bU x.2.2.2.2.2.1 + gM (x.2.2.2.2.2.2.1,x.2.2.2.2.2.2.2.1,x.2.2.2.2.2.2.2.2.1,x.2.2.2.2.2.2.2.2.2.1,()) + wL cD x.2.2.2.2.2.2.2.2.2.2.1:=rfl;unfold KI;rw [Kc x.2.2.2.2.2.1 (by omega)];rw [toRing (x.2.2.2.2.2.2.1,x.2.2.2.2.2.2.2.1,x.2.2.2.2.2.2.2.2.1,x.2.2.2.2.2.2.2.2.2.1,()) (by omega)];rw [K1 x.2.2.2.2.2.2.2.2.2.2.1 (by omega)];rfl
theorem O2 (x:((List UInt8)×Int×Int×Int×Int×(List di)×Int×Int×(List R3)×(List R3)×(List dh)×Unit)) (h:bw x<=1099511627776):JQ x x=some ((),((true,()),())):=by have hw:bw x=x.1.length + wL bU x.2.2.2.2.2.1 + gM (x.2.2.2.2.2.2.1,x.2.2.2.2.2.2.2.1,x.2.2.2.2.2.2.2.2.1,x.2.2.2.2.2.2.2.2.2.1,()) + wL cD x.2.2.2.2.2.2.2.2.2.2.1:=rfl;unfold JQ;simp only [bp,dx,Bool.not_true,cond_false,Option.bind_some,beq_self_eq_true,LO x.2.2.2.2.2.1 (by omega),PV (x.2.2.2.2.2.2.1,x.2.2.2.2.2.2.2.1,x.2.2.2.2.2.2.2.2.1,x.2.2.2.2.2.2.2.2.2.1,()) (by omega),K4 x.2.2.2.2.2.2.2.2.2.2.1 (by omega)]
theorem yn (xs:List eD) (hb:xs.length<=aW/\∀ y∈xs,qQ y) (a:Int) (h0:0<=a) (h1:a<=1048576):Nl xs a 0=some (if ((cL bw xs:Nat):Int)<=a then .inl (xs,a - (cL bw xs:Nat),(xs.length:Int),()) else .inr (-1,())):=by
 have h:=a6 (step:=fun (x:(List eD)×Int×Int×Unit)=>vE x.1 x.2.1 x.2.2.1) xs (fun i (a:Int)=>(xs,a,((i:Nat):Int),())) (fun _ x (a:Int)=>bif decide ((bw x:Int)<=a) then Sum.inl (a - bw x) else .inr (.inr (-1,())))
  (fun a=> .inl (xs,a,(xs.length:Int),())) (fun _ a=>0<=a/\a<=1048576) (a0:=a) ⟨h0,h1⟩ (fun i x a hx ha=>by
    have hmem:=List.mem_of_getElem? hx;have hlt:=aj hx;show vE xs a (i:Int)=_;unfold vE;rw [aG hx,aC hx,aX _ hx,PX x a ha.1 ha.2 (hb.2 x hmem),aQ (by omega)];dsimp only [cond_true,Option.bind_some];by_cases q:((bw x:Nat):Int)<=a
    . rw [bd q,ax (by omega),decide_eq_true q]; rfl
    . rw [aP q,decide_eq_false q]; rfl) (fun i x a a' hx ha hf=>by
    by_cases q:((bw x:Nat):Int)<=a
    . rw [decide_eq_true q] at hf;simp only [cond_true,Sum.inl.injEq] at hf;omega
    . rw [decide_eq_false q] at hf;simp at hf) (fun a ha=>by
    show vE xs a (xs.length:Int)=_;unfold vE;rw [aw rfl]; rfl)
 rw [rm _ _ _ _ _ _ h0] at h;refine Eq.trans h ?_;split <;> rfl
theorem sT (xs:List eD) (left:Int) (h0:0<=left) (h1:left<=1048576) (hb:xs.length<=aW/\∀ y∈xs,qQ y):Rh xs left=some ((),((zB left (wL bw xs),()),())):=by
 have hw:wL bw xs=xs.length + cL bw xs:=rfl;unfold Rh;dsimp only;rw [dv (s:=xs) (left:=left) (by omega) (by omega) hb.1];by_cases q:((xs.length:Nat):Int)<=left
 . rw [ax (by omega)];dsimp only [cond_false];rw [yn xs hb _ (by omega) (by omega)];by_cases q2:((cL bw xs:Nat):Int)<=left - (xs.length:Int)
   . rw [if_pos q2,bd (by omega)];dsimp only [Option.bind_some,Sum.elim_inl];have e:left - (xs.length:Int) - (cL bw xs:Nat)=left - ((wL bw xs:Nat):Int):=by omega
     rw [e]
   . rw [if_neg q2,aP (by omega)]; rfl
 . rw [aF (by omega),aP (by omega)]; rfl
theorem D1 (xs:List eD) (h:wL bw xs<=1048576):Tj xs=some ((),((xs,()),())):=by
 have hb:aW=140737488355328:=rfl;have hw:wL bw xs=xs.length + cL bw xs:=rfl;unfold Tj;dsimp only;rw [oh (by decide) (by omega),jz]
 have h:=a6 (step:=fun (x:(List eD)×(List de)×Int×Unit)=>wm x.1 x.2.1 x.2.2.1) xs (fun i (a:List eD)=>(xs,a ++ List.replicate (xs.length - i) d92,((i:Nat):Int),())) (fun _ x (a:List eD)=>Sum.inl (a ++ [x]))
  (fun a=> .inl (xs,a,(xs.length:Int),())) (fun i a=>a.length=i) (a0:=[]) rfl (fun i x a hx ha=>by
    have hlt:=aj hx;have hcm:=iz bw hx;show wm xs (a ++ List.replicate (xs.length - i) d92) (i:Int)=_;unfold wm;obtain ⟨q,hq⟩:∃ q,xs.length - i=q + 1:=⟨xs.length - i - 1,by omega⟩;have hq':xs.length - (i + 1)=q:=by omega
    rw [hq,List.replicate_succ,aG hx,aC hx,aX _ hx,PE x (by omega)];dsimp only [cond_true,Option.bind_some];simp only [ly ha,uV _ ha,lx ha,aQ (show i<=aW by omega),hq',cond_true,List.append_assoc,List.singleton_append]) (fun i x a a' hx ha hf=>by
    simp only [Sum.inl.injEq] at hf;rw [<- hf,List.length_append,ha]; rfl) (fun a ha=>by
    show wm xs (a ++ List.replicate (xs.length - xs.length) d92) (xs.length:Int)=_;unfold wm;rw [aw rfl,Nat.sub_self,List.replicate_zero,List.append_nil]; rfl)
 rw [jk] at h;have h':MC xs (List.replicate xs.length d92) 0=_:=h;rw [h']; rfl
theorem Dv (xs:List de) (h:wL bw xs<=1099511627776):Sf xs xs=some ((),((true,()),())):=by
 have hb:aW=140737488355328:=rfl;have hw:wL bw xs=xs.length + cL bw xs:=rfl;unfold Sf;rw [bp];have h:=aE (step:=fun (x:(List de)×(List de)×Int×Unit)=>uQ x.1 x.2.1 x.2.2.1) xs (fun i (_:Unit)=>(xs,xs,((i:Nat):Int),())) (fun _ x _=>Sum.inl ()) (fun _=> .inl (xs,xs,(xs.length:Int),())) (a0:=()) (fun i x a hx=>by
  have hlt:=aj hx;have hcm:=iz bw hx;show uQ xs xs (i:Int)=_;unfold uQ;rw [aG hx,aC hx,aX _ hx,O2 x (by omega),aQ (by omega)]; rfl) (fun a=>by
  show uQ xs xs (xs.length:Int)=_;unfold uQ;rw [aw rfl]; rfl)
 rw [bQ (fun _ a=>a)] at h;have h':Nf xs xs 0=_:=h;rw [h']; rfl
def gL (x:((List eD)×Unit)):Nat:=wL bw x.1
def Jz (x:((List eD)×Unit)):Prop:=(x.1.length<=aW/\∀ y∈x.1,qQ y)
def OY (x:((List eD)×Unit)):Prop:=(∀ y∈x.1,CL y)
theorem Gf (x:((List eD)×Unit)) (left:Int) (h0:0<=left) (h1:left<=1048576) (hb:Jz x):U3 x left=some ((),((zB left (gL x),()),())):=by
 have hw:gL x=wL bw x.1:=rfl;unfold U3
 try dsimp only
 by_cases q0:((wL bw x.1:Nat):Int)<=left;rotate_left
 . rw [sT x.1 left (by omega) (by omega) (hb),aP q0,aP (by omega)]; rfl
 rw [sT x.1 left (by omega) (by omega) (hb),bd q0]; dsimp only [Option.bind_some]; rw [ax (by omega)]; dsimp only [cond_false];rw [bd (by omega)];have e:(left - ((wL bw x.1:Nat):Int))=left - ((gL x:Nat):Int):=by omega
 rw [e]
theorem OI (x:((List eD)×Unit)) (h:gL x<=1048576):UL x=some ((),(x,())):=by have hw:gL x=wL bw x.1:=rfl;unfold UL;rw [D1 x.1 (by omega)];rfl
theorem NL (x:((List eD)×Unit)) (h:gL x<=1099511627776):UT x x=some ((),((true,()),())):=by have hw:gL x=wL bw x.1:=rfl;unfold UT;simp only [bp,dx,Bool.not_true,cond_false,Option.bind_some,beq_self_eq_true,Dv x.1 (by omega)]
def aY (x:(Int×(List de)×Unit)):Nat:=wL bw x.2.1
def l0 (x:(Int×(List de)×Unit)):Prop:=(x.2.1.length<=aW/\∀ y∈x.2.1,qQ y)
def Bo (x:(Int×(List de)×Unit)):Prop:=(∀ y∈x.2.1,CL y)
theorem IC (x:(Int×(List de)×Unit)) (left:Int) (h0:0<=left) (h1:left<=1048576) (hb:l0 x):Ux x left=some ((),((zB left (aY x),()),())):=by
 have hw:aY x=wL bw x.2.1:=rfl;unfold Ux
 try dsimp only
 by_cases q0:((wL bw x.2.1:Nat):Int)<=left;rotate_left
 . rw [sT x.2.1 left (by omega) (by omega) (hb),aP q0,aP (by omega)]; rfl
 rw [sT x.2.1 left (by omega) (by omega) (hb),bd q0]; dsimp only [Option.bind_some]; rw [ax (by omega)]; dsimp only [cond_false];rw [bd (by omega)];have e:(left - ((wL bw x.2.1:Nat):Int))=left - ((aY x:Nat):Int):=by omega
 rw [e]
theorem Hu (x:(Int×(List de)×Unit)) (h:aY x<=1048576):UQ x=some ((),(x,())):=by have hw:aY x=wL bw x.2.1:=rfl;unfold UQ;rw [D1 x.2.1 (by omega)];rfl
theorem Ho (x:(Int×(List de)×Unit)) (h:aY x<=1099511627776):Uo x x=some ((),((true,()),())):=by have hw:aY x=wL bw x.2.1:=rfl;unfold Uo;simp only [bp,dx,Bool.not_true,cond_false,Option.bind_some,beq_self_eq_true,Dv x.2.1 (by omega)]
def cw (x:((List R5)×Int×(List R3)×Int×Int×Int×Int×Int×(List R5)×Unit)):Nat:=x.1.length + x.2.2.1.length + x.2.2.2.2.2.2.2.2.1.length
def uO (x:((List R5)×Int×(List R3)×Int×Int×Int×Int×Int×(List R5)×Unit)):Prop:=x.1.length<=aW/\x.2.2.1.length<=aW/\x.2.2.2.2.2.2.2.2.1.length<=aW
def Cm (x:((List R5)×Int×(List R3)×Int×Int×Int×Int×Int×(List R5)×Unit)):Prop:=(∀ y∈x.1,lI .u8 y.1)/\(∀ y∈x.2.2.2.2.2.2.2.2.1,lI .u8 y.1)
theorem Px (x:((List R5)×Int×(List R3)×Int×Int×Int×Int×Int×(List R5)×Unit)) (left:Int) (h0:0<=left) (h1:left<=1048576) (hb:uO x):U4 x left=some ((),((zB left (cw x),()),())):=by
 have hw:cw x=x.1.length + x.2.2.1.length + x.2.2.2.2.2.2.2.2.1.length:=rfl;unfold U4
 try dsimp only
 by_cases q0:((x.1.length:Nat):Int)<=left;rotate_left
 . rw [na x.1 left (by omega) (by omega) (hb.1),aP q0,aP (by omega)]; rfl
 rw [na x.1 left (by omega) (by omega) (hb.1),bd q0]; dsimp only [Option.bind_some]; rw [ax (by omega)]; dsimp only [cond_false];by_cases q1:((x.2.2.1.length:Nat):Int)<=(left - ((x.1.length:Nat):Int));rotate_left
 . rw [qX x.2.2.1 (left - ((x.1.length:Nat):Int)) (by omega) (by omega) (hb.2.1),aP q1,aP (by omega)]; rfl
 rw [qX x.2.2.1 (left - ((x.1.length:Nat):Int)) (by omega) (by omega) (hb.2.1),bd q1]; dsimp only [Option.bind_some]; rw [ax (by omega)]; dsimp only [cond_false];by_cases q2:((x.2.2.2.2.2.2.2.2.1.length:Nat):Int)<=((left - ((x.1.length:Nat):Int)) - ((x.2.2.1.length:Nat):Int));rotate_left
 . rw [na x.2.2.2.2.2.2.2.2.1 ((left - ((x.1.length:Nat):Int)) - ((x.2.2.1.length:Nat):Int)) (by omega) (by omega) (hb.2.2),aP q2,aP (by omega)]; rfl
 rw [na x.2.2.2.2.2.2.2.2.1 ((left - ((x.1.length:Nat):Int)) - ((x.2.2.1.length:Nat):Int)) (by omega) (by omega) (hb.2.2),bd q2]; dsimp only [Option.bind_some]; rw [ax (by omega)]; dsimp only [cond_false];rw [bd (by omega)];have e:(((left - ((x.1.length:Nat):Int)) - ((x.2.2.1.length:Nat):Int)) - ((x.2.2.2.2.2.2.2.2.1.length:Nat):Int))=left - ((cw x:Nat):Int):=by omega
 rw [e]
theorem toTask (x:((List R5)×Int×(List R3)×Int×Int×Int×Int×Int×(List R5)×Unit)) (h:cw x<=1048576):UH x=some ((),(x,())):=by have hw:cw x=x.1.length + x.2.2.1.length + x.2.2.2.2.2.2.2.2.1.length:=rfl;unfold UH;rw [zw x.1 (by omega)];rw [BE x.2.2.1 (by omega)];rw [zw x.2.2.2.2.2.2.2.2.1 (by omega)];rfl
theorem OV (x:((List R5)×Int×(List R3)×Int×Int×Int×Int×Int×(List R5)×Unit)) (h:cw x<=1099511627776):UG x x=some ((),((true,()),())):=by have hw:cw x=x.1.length + x.2.2.1.length + x.2.2.2.2.2.2.2.2.1.length:=rfl;unfold UG;simp only [bp,dx,Bool.not_true,cond_false,Option.bind_some,beq_self_eq_true,yy x.1 (by omega),B6 x.2.2.1 (by omega),yy x.2.2.2.2.2.2.2.2.1 (by omega)]
theorem wu (xs:List nk) (hb:xs.length<=aW/\∀ y∈xs,l0 y) (a:Int) (h0:0<=a) (h1:a<=1048576):Ns xs a 0=some (if ((cL aY xs:Nat):Int)<=a then .inl (xs,a - (cL aY xs:Nat),(xs.length:Int),()) else .inr (-1,())):=by
 have h:=a6 (step:=fun (x:(List nk)×Int×Int×Unit)=>tX x.1 x.2.1 x.2.2.1) xs (fun i (a:Int)=>(xs,a,((i:Nat):Int),())) (fun _ x (a:Int)=>bif decide ((aY x:Int)<=a) then Sum.inl (a - aY x) else .inr (.inr (-1,())))
  (fun a=> .inl (xs,a,(xs.length:Int),())) (fun _ a=>0<=a/\a<=1048576) (a0:=a) ⟨h0,h1⟩ (fun i x a hx ha=>by
    have hmem:=List.mem_of_getElem? hx;have hlt:=aj hx;show tX xs a (i:Int)=_;unfold tX;rw [aG hx,aC hx,aX _ hx,IC x a ha.1 ha.2 (hb.2 x hmem),aQ (by omega)];dsimp only [cond_true,Option.bind_some];by_cases q:((aY x:Nat):Int)<=a
    . rw [bd q,ax (by omega),decide_eq_true q]; rfl
    . rw [aP q,decide_eq_false q]; rfl) (fun i x a a' hx ha hf=>by
    by_cases q:((aY x:Nat):Int)<=a
    . rw [decide_eq_true q] at hf;simp only [cond_true,Sum.inl.injEq] at hf;omega
    . rw [decide_eq_false q] at hf;simp at hf) (fun a ha=>by
    show tX xs a (xs.length:Int)=_;unfold tX;rw [aw rfl]; rfl)
 rw [rm _ _ _ _ _ _ h0] at h;refine Eq.trans h ?_;split <;> rfl
theorem xG (xs:List nk) (left:Int) (h0:0<=left) (h1:left<=1048576) (hb:xs.length<=aW/\∀ y∈xs,l0 y):Ut xs left=some ((),((zB left (wL aY xs),()),())):=by
 have hw:wL aY xs=xs.length + cL aY xs:=rfl;unfold Ut;dsimp only;rw [dv (s:=xs) (left:=left) (by omega) (by omega) hb.1];by_cases q:((xs.length:Nat):Int)<=left
 . rw [ax (by omega)];dsimp only [cond_false];rw [wu xs hb _ (by omega) (by omega)];by_cases q2:((cL aY xs:Nat):Int)<=left - (xs.length:Int)
   . rw [if_pos q2,bd (by omega)];dsimp only [Option.bind_some,Sum.elim_inl];have e:left - (xs.length:Int) - (cL aY xs:Nat)=left - ((wL aY xs:Nat):Int):=by omega
     rw [e]
   . rw [if_neg q2,aP (by omega)]; rfl
 . rw [aF (by omega),aP (by omega)]; rfl
theorem FL (xs:List nk) (h:wL aY xs<=1048576):UO xs=some ((),((xs,()),())):=by
 have hb:aW=140737488355328:=rfl;have hw:wL aY xs=xs.length + cL aY xs:=rfl;unfold UO;dsimp only;rw [oh (by decide) (by omega),jz]
 have h:=a6 (step:=fun (x:(List nk)×(List gb)×Int×Unit)=>uv x.1 x.2.1 x.2.2.1) xs (fun i (a:List nk)=>(xs,a ++ List.replicate (xs.length - i) d67,((i:Nat):Int),())) (fun _ x (a:List nk)=>Sum.inl (a ++ [x]))
  (fun a=> .inl (xs,a,(xs.length:Int),())) (fun i a=>a.length=i) (a0:=[]) rfl (fun i x a hx ha=>by
    have hlt:=aj hx;have hcm:=iz aY hx;show uv xs (a ++ List.replicate (xs.length - i) d67) (i:Int)=_;unfold uv;obtain ⟨q,hq⟩:∃ q,xs.length - i=q + 1:=⟨xs.length - i - 1,by omega⟩;have hq':xs.length - (i + 1)=q:=by omega
    rw [hq,List.replicate_succ,aG hx,aC hx,aX _ hx,Hu x (by omega)];dsimp only [cond_true,Option.bind_some];simp only [ly ha,uV _ ha,lx ha,aQ (show i<=aW by omega),hq',cond_true,List.append_assoc,List.singleton_append]) (fun i x a a' hx ha hf=>by
    simp only [Sum.inl.injEq] at hf;rw [<- hf,List.length_append,ha]; rfl) (fun a ha=>by
    show uv xs (a ++ List.replicate (xs.length - xs.length) d67) (xs.length:Int)=_;unfold uv;rw [aw rfl,Nat.sub_self,List.replicate_zero,List.append_nil]; rfl)
 rw [jk] at h;have h':MT xs (List.replicate xs.length d67) 0=_:=h;rw [h']; rfl
theorem E9 (xs:List gb) (h:wL aY xs<=1099511627776):Uu xs xs=some ((),((true,()),())):=by
 have hb:aW=140737488355328:=rfl;have hw:wL aY xs=xs.length + cL aY xs:=rfl;unfold Uu;rw [bp];have h:=aE (step:=fun (x:(List gb)×(List gb)×Int×Unit)=>vp x.1 x.2.1 x.2.2.1) xs (fun i (_:Unit)=>(xs,xs,((i:Nat):Int),())) (fun _ x _=>Sum.inl ()) (fun _=> .inl (xs,xs,(xs.length:Int),())) (a0:=()) (fun i x a hx=>by
  have hlt:=aj hx;have hcm:=iz aY hx;show vp xs xs (i:Int)=_;unfold vp;rw [aG hx,aC hx,aX _ hx,Ho x (by omega),aQ (by omega)]; rfl) (fun a=>by
  show vp xs xs (xs.length:Int)=_;unfold vp;rw [aw rfl]; rfl)
 rw [bQ (fun _ a=>a)] at h;have h':Mz xs xs 0=_:=h;rw [h']; rfl
theorem yJ (xs:List lX) (hb:xs.length<=aW/\∀ y∈xs,uO y) (a:Int) (h0:0<=a) (h1:a<=1048576):Ms xs a 0=some (if ((cL cw xs:Nat):Int)<=a then .inl (xs,a - (cL cw xs:Nat),(xs.length:Int),()) else .inr (-1,())):=by
 have h:=a6 (step:=fun (x:(List lX)×Int×Int×Unit)=>tW x.1 x.2.1 x.2.2.1) xs (fun i (a:Int)=>(xs,a,((i:Nat):Int),())) (fun _ x (a:Int)=>bif decide ((cw x:Int)<=a) then Sum.inl (a - cw x) else .inr (.inr (-1,())))
  (fun a=> .inl (xs,a,(xs.length:Int),())) (fun _ a=>0<=a/\a<=1048576) (a0:=a) ⟨h0,h1⟩ (fun i x a hx ha=>by
    have hmem:=List.mem_of_getElem? hx;have hlt:=aj hx;show tW xs a (i:Int)=_;unfold tW;rw [aG hx,aC hx,aX _ hx,Px x a ha.1 ha.2 (hb.2 x hmem),aQ (by omega)];dsimp only [cond_true,Option.bind_some];by_cases q:((cw x:Nat):Int)<=a
    . rw [bd q,ax (by omega),decide_eq_true q]; rfl
    . rw [aP q,decide_eq_false q]; rfl) (fun i x a a' hx ha hf=>by
    by_cases q:((cw x:Nat):Int)<=a
    . rw [decide_eq_true q] at hf;simp only [cond_true,Sum.inl.injEq] at hf;omega
    . rw [decide_eq_false q] at hf;simp at hf) (fun a ha=>by
    show tW xs a (xs.length:Int)=_;unfold tW;rw [aw rfl]; rfl)
 rw [rm _ _ _ _ _ _ h0] at h;refine Eq.trans h ?_;split <;> rfl
theorem Dz (xs:List lX) (left:Int) (h0:0<=left) (h1:left<=1048576) (hb:xs.length<=aW/\∀ y∈xs,uO y):Up xs left=some ((),((zB left (wL cw xs),()),())):=by
 have hw:wL cw xs=xs.length + cL cw xs:=rfl;unfold Up;dsimp only;rw [dv (s:=xs) (left:=left) (by omega) (by omega) hb.1];by_cases q:((xs.length:Nat):Int)<=left
 . rw [ax (by omega)];dsimp only [cond_false];rw [yJ xs hb _ (by omega) (by omega)];by_cases q2:((cL cw xs:Nat):Int)<=left - (xs.length:Int)
   . rw [if_pos q2,bd (by omega)];dsimp only [Option.bind_some,Sum.elim_inl];have e:left - (xs.length:Int) - (cL cw xs:Nat)=left - ((wL cw xs:Nat):Int):=by omega
     rw [e]
   . rw [if_neg q2,aP (by omega)]; rfl
 . rw [aF (by omega),aP (by omega)]; rfl
theorem LD (xs:List lX) (h:wL cw xs<=1048576):UR xs=some ((),((xs,()),())):=by
 have hb:aW=140737488355328:=rfl;have hw:wL cw xs=xs.length + cL cw xs:=rfl;unfold UR;dsimp only;rw [oh (by decide) (by omega),jz]
 have h:=a6 (step:=fun (x:(List lX)×(List j9)×Int×Unit)=>uX x.1 x.2.1 x.2.2.1) xs (fun i (a:List lX)=>(xs,a ++ List.replicate (xs.length - i) d64,((i:Nat):Int),())) (fun _ x (a:List lX)=>Sum.inl (a ++ [x]))
  (fun a=> .inl (xs,a,(xs.length:Int),())) (fun i a=>a.length=i) (a0:=[]) rfl (fun i x a hx ha=>by
    have hlt:=aj hx;have hcm:=iz cw hx;show uX xs (a ++ List.replicate (xs.length - i) d64) (i:Int)=_;unfold uX;obtain ⟨q,hq⟩:∃ q,xs.length - i=q + 1:=⟨xs.length - i - 1,by omega⟩;have hq':xs.length - (i + 1)=q:=by omega
    rw [hq,List.replicate_succ,aG hx,aC hx,aX _ hx,toTask x (by omega)];dsimp only [cond_true,Option.bind_some];simp only [ly ha,uV _ ha,lx ha,aQ (show i<=aW by omega),hq',cond_true,List.append_assoc,List.singleton_append]) (fun i x a a' hx ha hf=>by
    simp only [Sum.inl.injEq] at hf;rw [<- hf,List.length_append,ha]; rfl) (fun a ha=>by
    show uX xs (a ++ List.replicate (xs.length - xs.length) d64) (xs.length:Int)=_;unfold uX;rw [aw rfl,Nat.sub_self,List.replicate_zero,List.append_nil]; rfl)
 rw [jk] at h;have h':NG xs (List.replicate xs.length d64) 0=_:=h;rw [h']; rfl
theorem Kq (xs:List j9) (h:wL cw xs<=1099511627776):UU xs xs=some ((),((true,()),())):=by
 have hb:aW=140737488355328:=rfl;have hw:wL cw xs=xs.length + cL cw xs:=rfl;unfold UU;rw [bp];have h:=aE (step:=fun (x:(List j9)×(List j9)×Int×Unit)=>wK x.1 x.2.1 x.2.2.1) xs (fun i (_:Unit)=>(xs,xs,((i:Nat):Int),())) (fun _ x _=>Sum.inl ()) (fun _=> .inl (xs,xs,(xs.length:Int),())) (a0:=()) (fun i x a hx=>by
  have hlt:=aj hx;have hcm:=iz cw hx;show wK xs xs (i:Int)=_;unfold wK;rw [aG hx,aC hx,aX _ hx,OV x (by omega),aQ (by omega)]; rfl) (fun a=>by
  show wK xs xs (xs.length:Int)=_;unfold wK;rw [aw rfl]; rfl)
 rw [bQ (fun _ a=>a)] at h;have h':Nr xs xs 0=_:=h;rw [h']; rfl
def ft (x:((List nk)×Int×Int×(List lX)×Unit)):Nat:=wL aY x.1 + wL cw x.2.2.2.1
def D5 (x:((List nk)×Int×Int×(List lX)×Unit)):Prop:=(x.1.length<=aW/\∀ y∈x.1,l0 y)/\(x.2.2.2.1.length<=aW/\∀ y∈x.2.2.2.1,uO y)
def DI (x:((List nk)×Int×Int×(List lX)×Unit)):Prop:=(∀ y∈x.1,Bo y)/\(∀ y∈x.2.2.2.1,Cm y)
theorem Di (x:((List nk)×Int×Int×(List lX)×Unit)) (left:Int) (h0:0<=left) (h1:left<=1048576) (hb:D5 x):g8 x left=some ((),((zB left (ft x),()),())):=by
 have hw:ft x=wL aY x.1 + wL cw x.2.2.2.1:=rfl;unfold g8
 try dsimp only
 by_cases q0:((wL aY x.1:Nat):Int)<=left;rotate_left
 . rw [xG x.1 left (by omega) (by omega) (hb.1),aP q0,aP (by omega)]; rfl
 rw [xG x.1 left (by omega) (by omega) (hb.1),bd q0]; dsimp only [Option.bind_some]; rw [ax (by omega)]; dsimp only [cond_false];by_cases q1:((wL cw x.2.2.2.1:Nat):Int)<=(left - ((wL aY x.1:Nat):Int));rotate_left
 . rw [Dz x.2.2.2.1 (left - ((wL aY x.1:Nat):Int)) (by omega) (by omega) (hb.2),aP q1,aP (by omega)]; rfl
 rw [Dz x.2.2.2.1 (left - ((wL aY x.1:Nat):Int)) (by omega) (by omega) (hb.2),bd q1]; dsimp only [Option.bind_some]; rw [ax (by omega)]; dsimp only [cond_false];rw [bd (by omega)];have e:((left - ((wL aY x.1:Nat):Int)) - ((wL cw x.2.2.2.1:Nat):Int))=left - ((ft x:Nat):Int):=by omega
 rw [e]
theorem Kg (x:((List nk)×Int×Int×(List lX)×Unit)) (h:ft x<=1048576):g10 x=some ((),(x,())):=by have hw:ft x=wL aY x.1 + wL cw x.2.2.2.1:=rfl;unfold g10;rw [FL x.1 (by omega)];rw [LD x.2.2.2.1 (by omega)];rfl
theorem JZ (x:((List nk)×Int×Int×(List lX)×Unit)) (h:ft x<=1099511627776):g12 x x=some ((),((true,()),())):=by have hw:ft x=wL aY x.1 + wL cw x.2.2.2.1:=rfl;unfold g12;simp only [bp,dx,Bool.not_true,cond_false,Option.bind_some,beq_self_eq_true,E9 x.1 (by omega),Kq x.2.2.2.1 (by omega)]
def mr (x:((List eD)×Int×(List nk)×Int×Int×(List lX)×Unit)):Nat:=gL (x.1,()) + ft (x.2.2.1,x.2.2.2.1,x.2.2.2.2.1,x.2.2.2.2.2.1,())
def CE (x:((List eD)×Int×(List nk)×Int×Int×(List lX)×Unit)):Prop:=Jz (x.1,())/\D5 (x.2.2.1,x.2.2.2.1,x.2.2.2.2.1,x.2.2.2.2.2.1,())
def BN (x:((List eD)×Int×(List nk)×Int×Int×(List lX)×Unit)):Prop:=OY (x.1,())/\DI (x.2.2.1,x.2.2.2.1,x.2.2.2.2.1,x.2.2.2.2.2.1,())
theorem Og (x:((List eD)×Int×(List nk)×Int×Int×(List lX)×Unit)) (left:Int) (h0:0<=left) (h1:left<=1048576) (hb:CE x):g15 x left=some ((),((zB left (mr x),()),())):=by
 have hw:mr x=gL (x.1,()) + ft (x.2.2.1,x.2.2.2.1,x.2.2.2.2.1,x.2.2.2.2.2.1,()):=rfl;unfold g15
 try dsimp only
 by_cases q0:((gL (x.1,()):Nat):Int)<=left;rotate_left
 . rw [Gf (x.1,()) left (by omega) (by omega) (hb.1),aP q0,aP (by omega)]; rfl
 rw [Gf (x.1,()) left (by omega) (by omega) (hb.1),bd q0]; dsimp only [Option.bind_some]; rw [ax (by omega)]; dsimp only [cond_false];by_cases q1:((ft (x.2.2.1,x.2.2.2.1,x.2.2.2.2.1,x.2.2.2.2.2.1,()):Nat):Int)<=(left - ((gL (x.1,()):Nat):Int));rotate_left
 . rw [Di (x.2.2.1,x.2.2.2.1,x.2.2.2.2.1,x.2.2.2.2.2.1,()) (left - ((gL (x.1,()):Nat):Int)) (by omega) (by omega) (hb.2),aP q1,aP (by omega)]; rfl
 rw [Di (x.2.2.1,x.2.2.2.1,x.2.2.2.2.1,x.2.2.2.2.2.1,()) (left - ((gL (x.1,()):Nat):Int)) (by omega) (by omega) (hb.2),bd q1]; dsimp only [Option.bind_some]; rw [ax (by omega)]; dsimp only [cond_false];rw [bd (by omega)];have e:((left - ((gL (x.1,()):Nat):Int)) - ((ft (x.2.2.1,x.2.2.2.1,x.2.2.2.2.1,x.2.2.2.2.2.1,()):Nat):Int))=left - ((mr x:Nat):Int):=by omega
 rw [e]
theorem PI (x:((List eD)×Int×(List nk)×Int×Int×(List lX)×Unit)) (h:mr x<=1048576):g17 x=some ((),(x,())):=by have hw:mr x=gL (x.1,()) + ft (x.2.2.1,x.2.2.2.1,x.2.2.2.2.1,x.2.2.2.2.2.1,()):=rfl;unfold g17;rw [OI (x.1,()) (by omega)];rw [Kg (x.2.2.1,x.2.2.2.1,x.2.2.2.2.1,x.2.2.2.2.2.1,()) (by omega)];rfl
theorem O9 (x:((List eD)×Int×(List nk)×Int×Int×(List lX)×Unit)) (h:mr x<=1099511627776):g19 x x=some ((),((true,()),())):=by have hw:mr x=gL (x.1,()) + ft (x.2.2.1,x.2.2.2.1,x.2.2.2.2.1,x.2.2.2.2.2.1,()):=rfl;unfold g19;simp only [bp,dx,Bool.not_true,cond_false,Option.bind_some,beq_self_eq_true,NL (x.1,()) (by omega),JZ (x.2.2.1,x.2.2.2.1,x.2.2.2.2.1,x.2.2.2.2.2.1,()) (by omega)]
end Go.Av
