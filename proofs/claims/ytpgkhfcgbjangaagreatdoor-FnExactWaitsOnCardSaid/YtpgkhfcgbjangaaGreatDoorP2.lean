/- Part of a proof that the law FnExactWaitsOn answers true for every input: the printed functions of this program and their plain laws. No conditions beyond the statement. -/
import Derived.Test.YtpgkhfcgbjangaaGreatDoorP1
import Derived.Test.YtpgkhfcgbjangaaGreatDoorFw4
set_option maxRecDepth 100000
set_option maxHeartbeats 4000000
namespace Go.Av
def bT (x:((List UInt8)×Int×Int×Unit)):Nat:=x.1.length
def vY (x:((List UInt8)×Int×Int×Unit)):Prop:=x.1.length<=aX
theorem PW (x:((List UInt8)×Int×Int×Unit)) (left:Int) (h0:0<=left) (h1:left<=1048576) (hb:vY x):Le x left=some ((),((BB left (bT x),()),())):=by
 have hw:bT x=x.1.length:=rfl;unfold Le
 try dsimp only
 by_cases q0:((x.1.length:Nat):Int)<=left;rotate_left
 . rw [dw (s:=x.1) (left:=left) (by omega) (by omega) hb]; rw [aF (by omega),aV (by omega)]; rfl
 rw [dw (s:=x.1) (left:=left) (by omega) (by omega) hb]; rw [ay (by omega)]; dsimp only [cond_false];rw [bp (by omega)];have e:(left - ((x.1.length:Nat):Int))=left - ((bT x:Nat):Int):=by omega
 rw [e]
theorem P4 (x:((List UInt8)×Int×Int×Unit)) (h:bT x<=1048576):LH x=some ((),(x,())):=by have hw:bT x=x.1.length:=rfl;unfold LH;rfl
theorem NX (x:((List UInt8)×Int×Int×Unit)) (h:bT x<=1099511627776):Kc x x=some ((),((true,()),())):=by have hw:bT x=x.1.length:=rfl;unfold Kc;simp only [bq,eb,Bool.not_true,cond_false,Option.bind_some,beq_self_eq_true]
theorem qO (x:(List R3)) (left:Int) (h0:0<=left) (h1:left<=1048576) (hb:x.length<=aX):Qg x left=some ((),((BB left x.length,()),())):=by
 unfold Qg;dsimp only;by_cases q:((x.length:Nat):Int)<=left
 . rw [dw (s:=x) (left:=left) (by omega) (by omega) hb,ay (by omega),bp q]; rfl
 . rw [dw (s:=x) (left:=left) (by omega) (by omega) hb,aF (by omega),aV q]; rfl
theorem CB (xs:List R3) (h:xs.length<=1048576):Qm xs=some ((),((xs,()),())):=by
 have hb:aX=140737488355328:=rfl;unfold Qm;dsimp only;rw [oC (by decide) (by omega),jc]
 have h:=a6 (step:=fun (x:(List R3)×(List R3)×Int×Unit)=>vH x.1 x.2.1 x.2.2.1) xs (fun i (a:List R3)=>(xs,a ++ List.replicate (xs.length - i) d3,((i:Nat):Int),())) (fun _ x (a:List R3)=>Sum.inl (a ++ [x]))
  (fun a=> .inl (xs,a,(xs.length:Int),())) (fun i a=>a.length=i) (a0:=[]) rfl (fun i x a hx ha=>by
    have hlt:=aj hx;show vH xs (a ++ List.replicate (xs.length - i) d3) (i:Int)=_;unfold vH;obtain ⟨q,hq⟩:∃ q,xs.length - i=q + 1:=⟨xs.length - i - 1,by omega⟩;have hq':xs.length - (i + 1)=q:=by omega
    rw [hq,List.replicate_succ,aH hx,aC hx,lq ha,aR _ hx,ld ha,aP (by omega),hq'];dsimp only [cond_true];rw [List.append_assoc]; rfl) (fun i x a a' hx ha hf=>by
    simp only [Sum.inl.injEq] at hf;rw [<- hf,List.length_append,ha]; rfl) (fun a ha=>by
    show vH xs (a ++ List.replicate (xs.length - xs.length) d3) (xs.length:Int)=_;unfold vH;rw [ax rfl,Nat.sub_self,List.replicate_zero,List.append_nil]; rfl)
 rw [jx] at h;have h':Nk xs (List.replicate xs.length d3) 0=_:=h;rw [h']; rfl
theorem Ci (xs:List R3) (h:xs.length<=1099511627776):g24 xs xs=some ((),((true,()),())):=by
 have hb:aX=140737488355328:=rfl;unfold g24;rw [bq];have h:=aE (step:=fun (x:(List R3)×(List R3)×Int×Unit)=>wo x.1 x.2.1 x.2.2.1) xs (fun i (_:Unit)=>(xs,xs,((i:Nat):Int),())) (fun _ x _=>Sum.inl ()) (fun _=> .inl (xs,xs,(xs.length:Int),())) (a0:=()) (fun i x a hx=>by
  have hlt:=aj hx;show wo xs xs (i:Int)=_;unfold wo;rw [aH hx,aC hx,aR _ hx,bq,aP (by omega)]; rfl) (fun a=>by
  show wo xs xs (xs.length:Int)=_;unfold wo;rw [ax rfl]; rfl)
 rw [bP (fun _ a=>a)] at h;have h':MC xs xs 0=_:=h;rw [h']; rfl
def gK (x:(Int×Int×(List R3)×(List R3)×Unit)):Nat:=x.2.2.1.length + x.2.2.2.1.length
def Gp (x:(Int×Int×(List R3)×(List R3)×Unit)):Prop:=x.2.2.1.length<=aX/\x.2.2.2.1.length<=aX
theorem I9 (x:(Int×Int×(List R3)×(List R3)×Unit)) (left:Int) (h0:0<=left) (h1:left<=1048576) (hb:Gp x):LO x left=some ((),((BB left (gK x),()),())):=by
 have hw:gK x=x.2.2.1.length + x.2.2.2.1.length:=rfl;unfold LO
 try dsimp only
 by_cases q0:((x.2.2.1.length:Nat):Int)<=left;rotate_left
 . rw [qO x.2.2.1 left (by omega) (by omega) (hb.1),aV q0,aV (by omega)]; rfl
 rw [qO x.2.2.1 left (by omega) (by omega) (hb.1),bp q0]; dsimp only [Option.bind_some]; rw [ay (by omega)]; dsimp only [cond_false];by_cases q1:((x.2.2.2.1.length:Nat):Int)<=(left - ((x.2.2.1.length:Nat):Int));rotate_left
 . rw [qO x.2.2.2.1 (left - ((x.2.2.1.length:Nat):Int)) (by omega) (by omega) (hb.2),aV q1,aV (by omega)]; rfl
 rw [qO x.2.2.2.1 (left - ((x.2.2.1.length:Nat):Int)) (by omega) (by omega) (hb.2),bp q1]; dsimp only [Option.bind_some]; rw [ay (by omega)]; dsimp only [cond_false];rw [bp (by omega)];have e:((left - ((x.2.2.1.length:Nat):Int)) - ((x.2.2.2.1.length:Nat):Int))=left - ((gK x:Nat):Int):=by omega
 rw [e]
theorem toRing (x:(Int×Int×(List R3)×(List R3)×Unit)) (h:gK x<=1048576):JV x=some ((),(x,())):=by have hw:gK x=x.2.2.1.length + x.2.2.2.1.length:=rfl;unfold JV;rw [CB x.2.2.1 (by omega)];rw [CB x.2.2.2.1 (by omega)];rfl
theorem OC (x:(Int×Int×(List R3)×(List R3)×Unit)) (h:gK x<=1099511627776):KW x x=some ((),((true,()),())):=by have hw:gK x=x.2.2.1.length + x.2.2.2.1.length:=rfl;unfold KW;simp only [bq,eb,Bool.not_true,cond_false,Option.bind_some,beq_self_eq_true,Ci x.2.2.1 (by omega),Ci x.2.2.2.1 (by omega)]
theorem mM (x:(List R5)) (left:Int) (h0:0<=left) (h1:left<=1048576) (hb:x.length<=aX):Qn x left=some ((),((BB left x.length,()),())):=by
 unfold Qn;dsimp only;by_cases q:((x.length:Nat):Int)<=left
 . rw [dw (s:=x) (left:=left) (by omega) (by omega) hb,ay (by omega),bp q]; rfl
 . rw [dw (s:=x) (left:=left) (by omega) (by omega) hb,aF (by omega),aV q]; rfl
theorem yq (xs:List R5) (h:xs.length<=1048576):Qk xs=some ((),((xs,()),())):=by
 have hb:aX=140737488355328:=rfl;unfold Qk;dsimp only;rw [oC (by decide) (by omega),jc]
 have h:=a6 (step:=fun (x:(List R5)×(List R5)×Int×Unit)=>uz x.1 x.2.1 x.2.2.1) xs (fun i (a:List R5)=>(xs,a ++ List.replicate (xs.length - i) d5,((i:Nat):Int),())) (fun _ x (a:List R5)=>Sum.inl (a ++ [x]))
  (fun a=> .inl (xs,a,(xs.length:Int),())) (fun i a=>a.length=i) (a0:=[]) rfl (fun i x a hx ha=>by
    have hlt:=aj hx;show uz xs (a ++ List.replicate (xs.length - i) d5) (i:Int)=_;unfold uz;obtain ⟨q,hq⟩:∃ q,xs.length - i=q + 1:=⟨xs.length - i - 1,by omega⟩;have hq':xs.length - (i + 1)=q:=by omega
    rw [hq,List.replicate_succ,aH hx,aC hx,lq ha,aR _ hx,ld ha,aP (by omega),hq'];dsimp only [cond_true];rw [List.append_assoc]; rfl) (fun i x a a' hx ha hf=>by
    simp only [Sum.inl.injEq] at hf;rw [<- hf,List.length_append,ha]; rfl) (fun a ha=>by
    show uz xs (a ++ List.replicate (xs.length - xs.length) d5) (xs.length:Int)=_;unfold uz;rw [ax rfl,Nat.sub_self,List.replicate_zero,List.append_nil]; rfl)
 rw [jx] at h;have h':NC xs (List.replicate xs.length d5) 0=_:=h;rw [h']; rfl
theorem zd (xs:List R5) (h:xs.length<=1099511627776):Ql xs xs=some ((),((true,()),())):=by
 have hb:aX=140737488355328:=rfl;unfold Ql;rw [bq];have h:=aE (step:=fun (x:(List R5)×(List R5)×Int×Unit)=>uW x.1 x.2.1 x.2.2.1) xs (fun i (_:Unit)=>(xs,xs,((i:Nat):Int),())) (fun _ x _=>Sum.inl ()) (fun _=> .inl (xs,xs,(xs.length:Int),())) (a0:=()) (fun i x a hx=>by
  have hlt:=aj hx;show uW xs xs (i:Int)=_;unfold uW;rw [aH hx,aC hx,aR _ hx,bq,aP (by omega)]; rfl) (fun a=>by
  show uW xs xs (xs.length:Int)=_;unfold uW;rw [ax rfl]; rfl)
 rw [bP (fun _ a=>a)] at h;have h':Ml xs xs 0=_:=h;rw [h']; rfl
def cE (x:((List UInt8)×(List UInt8)×(List R5)×Unit)):Nat:=x.1.length + x.2.1.length + x.2.2.1.length
def uK (x:((List UInt8)×(List UInt8)×(List R5)×Unit)):Prop:=x.1.length<=aX/\x.2.1.length<=aX/\x.2.2.1.length<=aX
def G4 (x:((List UInt8)×(List UInt8)×(List R5)×Unit)):Prop:=(∀ y∈x.2.2.1,lK .u8 y.1)
theorem Pe (x:((List UInt8)×(List UInt8)×(List R5)×Unit)) (left:Int) (h0:0<=left) (h1:left<=1048576) (hb:uK x):LS x left=some ((),((BB left (cE x),()),())):=by
 have hw:cE x=x.1.length + x.2.1.length + x.2.2.1.length:=rfl;unfold LS
 try dsimp only
 by_cases q0:((x.1.length:Nat):Int)<=left;rotate_left
 . rw [dw (s:=x.1) (left:=left) (by omega) (by omega) hb.1]; rw [aF (by omega),aV (by omega)]; rfl
 rw [dw (s:=x.1) (left:=left) (by omega) (by omega) hb.1]; rw [ay (by omega)]; dsimp only [cond_false];by_cases q1:((x.2.1.length:Nat):Int)<=(left - ((x.1.length:Nat):Int));rotate_left
 . rw [dw (s:=x.2.1) (left:=(left - ((x.1.length:Nat):Int))) (by omega) (by omega) hb.2.1]; rw [aF (by omega),aV (by omega)]; rfl
 rw [dw (s:=x.2.1) (left:=(left - ((x.1.length:Nat):Int))) (by omega) (by omega) hb.2.1]; rw [ay (by omega)]; dsimp only [cond_false];by_cases q2:((x.2.2.1.length:Nat):Int)<=((left - ((x.1.length:Nat):Int)) - ((x.2.1.length:Nat):Int));rotate_left
 . rw [mM x.2.2.1 ((left - ((x.1.length:Nat):Int)) - ((x.2.1.length:Nat):Int)) (by omega) (by omega) (hb.2.2),aV q2,aV (by omega)]; rfl
 rw [mM x.2.2.1 ((left - ((x.1.length:Nat):Int)) - ((x.2.1.length:Nat):Int)) (by omega) (by omega) (hb.2.2),bp q2]; dsimp only [Option.bind_some]; rw [ay (by omega)]; dsimp only [cond_false];rw [bp (by omega)];have e:(((left - ((x.1.length:Nat):Int)) - ((x.2.1.length:Nat):Int)) - ((x.2.2.1.length:Nat):Int))=left - ((cE x:Nat):Int):=by omega
 rw [e]
theorem NW (x:((List UInt8)×(List UInt8)×(List R5)×Unit)) (h:cE x<=1048576):Lu x=some ((),(x,())):=by have hw:cE x=x.1.length + x.2.1.length + x.2.2.1.length:=rfl;unfold Lu;rw [yq x.2.2.1 (by omega)];rfl
theorem PQ (x:((List UInt8)×(List UInt8)×(List R5)×Unit)) (h:cE x<=1099511627776):Lj x x=some ((),((true,()),())):=by have hw:cE x=x.1.length + x.2.1.length + x.2.2.1.length:=rfl;unfold Lj;simp only [bq,eb,Bool.not_true,cond_false,Option.bind_some,beq_self_eq_true,zd x.2.2.1 (by omega)]
theorem zq (xs:List mG) (hb:xs.length<=aX/\∀ y∈xs,vY y) (a:Int) (h0:0<=a) (h1:a<=1048576):Jx xs a 0=some (if ((cL bT xs:Nat):Int)<=a then .inl (xs,a - (cL bT xs:Nat),(xs.length:Int),()) else .inr (-1,())):=by
 have h:=a6 (step:=fun (x:(List mG)×Int×Int×Unit)=>o8 x.1 x.2.1 x.2.2.1) xs (fun i (a:Int)=>(xs,a,((i:Nat):Int),())) (fun _ x (a:Int)=>bif decide ((bT x:Int)<=a) then Sum.inl (a - bT x) else .inr (.inr (-1,())))
  (fun a=> .inl (xs,a,(xs.length:Int),())) (fun _ a=>0<=a/\a<=1048576) (a0:=a) ⟨h0,h1⟩ (fun i x a hx ha=>by
    have hmem:=List.mem_of_getElem? hx;have hlt:=aj hx;show o8 xs a (i:Int)=_;unfold o8;rw [aH hx,aC hx,aR _ hx,PW x a ha.1 ha.2 (hb.2 x hmem),aP (by omega)];dsimp only [cond_true,Option.bind_some];by_cases q:((bT x:Nat):Int)<=a
    . rw [bp q,ay (by omega),decide_eq_true q]; rfl
    . rw [aV q,decide_eq_false q]; rfl) (fun i x a a' hx ha hf=>by
    by_cases q:((bT x:Nat):Int)<=a
    . rw [decide_eq_true q] at hf;simp only [cond_true,Sum.inl.injEq] at hf;omega
    . rw [decide_eq_false q] at hf;simp at hf) (fun a ha=>by
    show o8 xs a (xs.length:Int)=_;unfold o8;rw [ax rfl]; rfl)
 rw [qV _ _ _ _ _ _ h0] at h;refine Eq.trans h ?_;split <;> rfl
theorem Dl (xs:List mG) (left:Int) (h0:0<=left) (h1:left<=1048576) (hb:xs.length<=aX/\∀ y∈xs,vY y):J6 xs left=some ((),((BB left (wL bT xs),()),())):=by
 have hw:wL bT xs=xs.length + cL bT xs:=rfl;unfold J6;dsimp only;rw [dw (s:=xs) (left:=left) (by omega) (by omega) hb.1];by_cases q:((xs.length:Nat):Int)<=left
 . rw [ay (by omega)];dsimp only [cond_false];rw [zq xs hb _ (by omega) (by omega)];by_cases q2:((cL bT xs:Nat):Int)<=left - (xs.length:Int)
   . rw [if_pos q2,bp (by omega)];dsimp only [Option.bind_some,Sum.elim_inl];have e:left - (xs.length:Int) - (cL bT xs:Nat)=left - ((wL bT xs:Nat):Int):=by omega
     rw [e]
   . rw [if_neg q2,aV (by omega)]; rfl
 . rw [aF (by omega),aV (by omega)]; rfl
theorem Lr (xs:List mG) (h:wL bT xs<=1048576):LG xs=some ((),((xs,()),())):=by
 have hb:aX=140737488355328:=rfl;have hw:wL bT xs=xs.length + cL bT xs:=rfl;unfold LG;dsimp only;rw [oC (by decide) (by omega),jc]
 have h:=a6 (step:=fun (x:(List mG)×(List dj)×Int×Unit)=>po x.1 x.2.1 x.2.2.1) xs (fun i (a:List mG)=>(xs,a ++ List.replicate (xs.length - i) d157,((i:Nat):Int),())) (fun _ x (a:List mG)=>Sum.inl (a ++ [x]))
  (fun a=> .inl (xs,a,(xs.length:Int),())) (fun i a=>a.length=i) (a0:=[]) rfl (fun i x a hx ha=>by
    have hlt:=aj hx;have hcm:=im bT hx;show po xs (a ++ List.replicate (xs.length - i) d157) (i:Int)=_;unfold po;obtain ⟨q,hq⟩:∃ q,xs.length - i=q + 1:=⟨xs.length - i - 1,by omega⟩;have hq':xs.length - (i + 1)=q:=by omega
    rw [hq,List.replicate_succ,aH hx,aC hx,aR _ hx,P4 x (by omega)];dsimp only [cond_true,Option.bind_some];simp only [lq ha,vU _ ha,ld ha,aP (show i<=aX by omega),hq',cond_true,List.append_assoc,List.singleton_append]) (fun i x a a' hx ha hf=>by
    simp only [Sum.inl.injEq] at hf;rw [<- hf,List.length_append,ha]; rfl) (fun a ha=>by
    show po xs (a ++ List.replicate (xs.length - xs.length) d157) (xs.length:Int)=_;unfold po;rw [ax rfl,Nat.sub_self,List.replicate_zero,List.append_nil]; rfl)
 rw [jx] at h;have h':I3 xs (List.replicate xs.length d157) 0=_:=h;rw [h']; rfl
theorem Li (xs:List dj) (h:wL bT xs<=1099511627776):Ke xs xs=some ((),((true,()),())):=by
 have hb:aX=140737488355328:=rfl;have hw:wL bT xs=xs.length + cL bT xs:=rfl;unfold Ke;rw [bq];have h:=aE (step:=fun (x:(List dj)×(List dj)×Int×Unit)=>oN x.1 x.2.1 x.2.2.1) xs (fun i (_:Unit)=>(xs,xs,((i:Nat):Int),())) (fun _ x _=>Sum.inl ()) (fun _=> .inl (xs,xs,(xs.length:Int),())) (a0:=()) (fun i x a hx=>by
  have hlt:=aj hx;have hcm:=im bT hx;show oN xs xs (i:Int)=_;unfold oN;rw [aH hx,aC hx,aR _ hx,NX x (by omega),aP (by omega)]; rfl) (fun a=>by
  show oN xs xs (xs.length:Int)=_;unfold oN;rw [ax rfl]; rfl)
 rw [bP (fun _ a=>a)] at h;have h':Ga xs xs 0=_:=h;rw [h']; rfl
theorem yL (xs:List kS) (hb:xs.length<=aX/\∀ y∈xs,uK y) (a:Int) (h0:0<=a) (h1:a<=1048576):GQ xs a 0=some (if ((cL cE xs:Nat):Int)<=a then .inl (xs,a - (cL cE xs:Nat),(xs.length:Int),()) else .inr (-1,())):=by
 have h:=a6 (step:=fun (x:(List kS)×Int×Int×Unit)=>oG x.1 x.2.1 x.2.2.1) xs (fun i (a:Int)=>(xs,a,((i:Nat):Int),())) (fun _ x (a:Int)=>bif decide ((cE x:Int)<=a) then Sum.inl (a - cE x) else .inr (.inr (-1,())))
  (fun a=> .inl (xs,a,(xs.length:Int),())) (fun _ a=>0<=a/\a<=1048576) (a0:=a) ⟨h0,h1⟩ (fun i x a hx ha=>by
    have hmem:=List.mem_of_getElem? hx;have hlt:=aj hx;show oG xs a (i:Int)=_;unfold oG;rw [aH hx,aC hx,aR _ hx,Pe x a ha.1 ha.2 (hb.2 x hmem),aP (by omega)];dsimp only [cond_true,Option.bind_some];by_cases q:((cE x:Nat):Int)<=a
    . rw [bp q,ay (by omega),decide_eq_true q]; rfl
    . rw [aV q,decide_eq_false q]; rfl) (fun i x a a' hx ha hf=>by
    by_cases q:((cE x:Nat):Int)<=a
    . rw [decide_eq_true q] at hf;simp only [cond_true,Sum.inl.injEq] at hf;omega
    . rw [decide_eq_false q] at hf;simp at hf) (fun a ha=>by
    show oG xs a (xs.length:Int)=_;unfold oG;rw [ax rfl]; rfl)
 rw [qV _ _ _ _ _ _ h0] at h;refine Eq.trans h ?_;split <;> rfl
theorem DW (xs:List kS) (left:Int) (h0:0<=left) (h1:left<=1048576) (hb:xs.length<=aX/\∀ y∈xs,uK y):Ly xs left=some ((),((BB left (wL cE xs),()),())):=by
 have hw:wL cE xs=xs.length + cL cE xs:=rfl;unfold Ly;dsimp only;rw [dw (s:=xs) (left:=left) (by omega) (by omega) hb.1];by_cases q:((xs.length:Nat):Int)<=left
 . rw [ay (by omega)];dsimp only [cond_false];rw [yL xs hb _ (by omega) (by omega)];by_cases q2:((cL cE xs:Nat):Int)<=left - (xs.length:Int)
   . rw [if_pos q2,bp (by omega)];dsimp only [Option.bind_some,Sum.elim_inl];have e:left - (xs.length:Int) - (cL cE xs:Nat)=left - ((wL cE xs:Nat):Int):=by omega
     rw [e]
   . rw [if_neg q2,aV (by omega)]; rfl
 . rw [aF (by omega),aV (by omega)]; rfl
theorem Ko (xs:List kS) (h:wL cE xs<=1048576):J1 xs=some ((),((xs,()),())):=by
 have hb:aX=140737488355328:=rfl;have hw:wL cE xs=xs.length + cL cE xs:=rfl;unfold J1;dsimp only;rw [oC (by decide) (by omega),jc]
 have h:=a6 (step:=fun (x:(List kS)×(List di)×Int×Unit)=>oB x.1 x.2.1 x.2.2.1) xs (fun i (a:List kS)=>(xs,a ++ List.replicate (xs.length - i) d160,((i:Nat):Int),())) (fun _ x (a:List kS)=>Sum.inl (a ++ [x]))
  (fun a=> .inl (xs,a,(xs.length:Int),())) (fun i a=>a.length=i) (a0:=[]) rfl (fun i x a hx ha=>by
    have hlt:=aj hx;have hcm:=im cE hx;show oB xs (a ++ List.replicate (xs.length - i) d160) (i:Int)=_;unfold oB;obtain ⟨q,hq⟩:∃ q,xs.length - i=q + 1:=⟨xs.length - i - 1,by omega⟩;have hq':xs.length - (i + 1)=q:=by omega
    rw [hq,List.replicate_succ,aH hx,aC hx,aR _ hx,NW x (by omega)];dsimp only [cond_true,Option.bind_some];simp only [lq ha,vU _ ha,ld ha,aP (show i<=aX by omega),hq',cond_true,List.append_assoc,List.singleton_append]) (fun i x a a' hx ha hf=>by
    simp only [Sum.inl.injEq] at hf;rw [<- hf,List.length_append,ha]; rfl) (fun a ha=>by
    show oB xs (a ++ List.replicate (xs.length - xs.length) d160) (xs.length:Int)=_;unfold oB;rw [ax rfl,Nat.sub_self,List.replicate_zero,List.append_nil]; rfl)
 rw [jx] at h;have h':Ic xs (List.replicate xs.length d160) 0=_:=h;rw [h']; rfl
theorem Lx (xs:List di) (h:wL cE xs<=1099511627776):LV xs xs=some ((),((true,()),())):=by
 have hb:aX=140737488355328:=rfl;have hw:wL cE xs=xs.length + cL cE xs:=rfl;unfold LV;rw [bq];have h:=aE (step:=fun (x:(List di)×(List di)×Int×Unit)=>pg x.1 x.2.1 x.2.2.1) xs (fun i (_:Unit)=>(xs,xs,((i:Nat):Int),())) (fun _ x _=>Sum.inl ()) (fun _=> .inl (xs,xs,(xs.length:Int),())) (a0:=()) (fun i x a hx=>by
  have hlt:=aj hx;have hcm:=im cE hx;show pg xs xs (i:Int)=_;unfold pg;rw [aH hx,aC hx,aR _ hx,PQ x (by omega),aP (by omega)]; rfl) (fun a=>by
  show pg xs xs (xs.length:Int)=_;unfold pg;rw [ax rfl]; rfl)
 rw [bP (fun _ a=>a)] at h;have h':IX xs xs 0=_:=h;rw [h']; rfl
def bU (x:((List UInt8)×Int×Int×Int×Int×(List dj)×Int×Int×(List R3)×(List R3)×(List di)×Unit)):Nat:=x.1.length + wL bT x.2.2.2.2.2.1 + gK (x.2.2.2.2.2.2.1,x.2.2.2.2.2.2.2.1,x.2.2.2.2.2.2.2.2.1,x.2.2.2.2.2.2.2.2.2.1,()) + wL cE x.2.2.2.2.2.2.2.2.2.2.1
def v8 (x:((List UInt8)×Int×Int×Int×Int×(List dj)×Int×Int×(List R3)×(List R3)×(List di)×Unit)):Prop:=x.1.length<=aX/\(x.2.2.2.2.2.1.length<=aX/\∀ y∈x.2.2.2.2.2.1,vY y)/\Gp (x.2.2.2.2.2.2.1,x.2.2.2.2.2.2.2.1,x.2.2.2.2.2.2.2.2.1,x.2.2.2.2.2.2.2.2.2.1,())/\(x.2.2.2.2.2.2.2.2.2.2.1.length<=aX/\∀ y∈x.2.2.2.2.2.2.2.2.2.2.1,uK y)
def Hc (x:((List UInt8)×Int×Int×Int×Int×(List dj)×Int×Int×(List R3)×(List R3)×(List di)×Unit)):Prop:=(∀ y∈x.2.2.2.2.2.2.2.2.2.2.1,G4 y)
theorem N5 (x:((List UInt8)×Int×Int×Int×Int×(List dj)×Int×Int×(List R3)×(List R3)×(List di)×Unit)) (left:Int) (h0:0<=left) (h1:left<=1048576) (hb:v8 x):UD x left=some ((),((BB left (bU x),()),())):=by
 have hw:bU x=x.1.length + wL bT x.2.2.2.2.2.1 + gK (x.2.2.2.2.2.2.1,x.2.2.2.2.2.2.2.1,x.2.2.2.2.2.2.2.2.1,x.2.2.2.2.2.2.2.2.2.1,()) + wL cE x.2.2.2.2.2.2.2.2.2.2.1:=rfl;unfold UD
 try dsimp only
 by_cases q0:((x.1.length:Nat):Int)<=left;rotate_left
 . rw [dw (s:=x.1) (left:=left) (by omega) (by omega) hb.1]; rw [aF (by omega),aV (by omega)]; rfl
 rw [dw (s:=x.1) (left:=left) (by omega) (by omega) hb.1]; rw [ay (by omega)]; dsimp only [cond_false];by_cases q1:((wL bT x.2.2.2.2.2.1:Nat):Int)<=(left - ((x.1.length:Nat):Int));rotate_left
 . rw [Dl x.2.2.2.2.2.1 (left - ((x.1.length:Nat):Int)) (by omega) (by omega) (hb.2.1),aV q1,aV (by omega)]; rfl
 rw [Dl x.2.2.2.2.2.1 (left - ((x.1.length:Nat):Int)) (by omega) (by omega) (hb.2.1),bp q1]; dsimp only [Option.bind_some]; rw [ay (by omega)]; dsimp only [cond_false];by_cases q2:((gK (x.2.2.2.2.2.2.1,x.2.2.2.2.2.2.2.1,x.2.2.2.2.2.2.2.2.1,x.2.2.2.2.2.2.2.2.2.1,()):Nat):Int)<=((left - ((x.1.length:Nat):Int)) - ((wL bT x.2.2.2.2.2.1:Nat):Int));rotate_left
 . rw [I9 (x.2.2.2.2.2.2.1,x.2.2.2.2.2.2.2.1,x.2.2.2.2.2.2.2.2.1,x.2.2.2.2.2.2.2.2.2.1,()) ((left - ((x.1.length:Nat):Int)) - ((wL bT x.2.2.2.2.2.1:Nat):Int)) (by omega) (by omega) (hb.2.2.1),aV q2,aV (by omega)]; rfl
 rw [I9 (x.2.2.2.2.2.2.1,x.2.2.2.2.2.2.2.1,x.2.2.2.2.2.2.2.2.1,x.2.2.2.2.2.2.2.2.2.1,()) ((left - ((x.1.length:Nat):Int)) - ((wL bT x.2.2.2.2.2.1:Nat):Int)) (by omega) (by omega) (hb.2.2.1),bp q2]; dsimp only [Option.bind_some]; rw [ay (by omega)]; dsimp only [cond_false];by_cases q3:((wL cE x.2.2.2.2.2.2.2.2.2.2.1:Nat):Int)<=(((left - ((x.1.length:Nat):Int)) - ((wL bT x.2.2.2.2.2.1:Nat):Int)) - ((gK (x.2.2.2.2.2.2.1,x.2.2.2.2.2.2.2.1,x.2.2.2.2.2.2.2.2.1,x.2.2.2.2.2.2.2.2.2.1,()):Nat):Int));rotate_left
 . rw [DW x.2.2.2.2.2.2.2.2.2.2.1 (((left - ((x.1.length:Nat):Int)) - ((wL bT x.2.2.2.2.2.1:Nat):Int)) - ((gK (x.2.2.2.2.2.2.1,x.2.2.2.2.2.2.2.1,x.2.2.2.2.2.2.2.2.1,x.2.2.2.2.2.2.2.2.2.1,()):Nat):Int)) (by omega) (by omega) (hb.2.2.2),aV q3,aV (by omega)]; rfl
 rw [DW x.2.2.2.2.2.2.2.2.2.2.1 (((left - ((x.1.length:Nat):Int)) - ((wL bT x.2.2.2.2.2.1:Nat):Int)) - ((gK (x.2.2.2.2.2.2.1,x.2.2.2.2.2.2.2.1,x.2.2.2.2.2.2.2.2.1,x.2.2.2.2.2.2.2.2.2.1,()):Nat):Int)) (by omega) (by omega) (hb.2.2.2),bp q3]; dsimp only [Option.bind_some]; rw [ay (by omega)]; dsimp only [cond_false];rw [bp (by omega)];have e:((((left - ((x.1.length:Nat):Int)) - ((wL bT x.2.2.2.2.2.1:Nat):Int)) - ((gK (x.2.2.2.2.2.2.1,x.2.2.2.2.2.2.2.1,x.2.2.2.2.2.2.2.2.1,x.2.2.2.2.2.2.2.2.2.1,()):Nat):Int)) - ((wL cE x.2.2.2.2.2.2.2.2.2.2.1:Nat):Int))=left - ((bU x:Nat):Int):=by omega
 rw [e]
theorem Oy (x:((List UInt8)×Int×Int×Int×Int×(List dj)×Int×Int×(List R3)×(List R3)×(List di)×Unit)) (h:bU x<=1048576):Kp x=some ((),(x,())):=by have hw:bU x=x.1.length + wL bT x.2.2.2.2.2.1 + gK (x.2.2.2.2.2.2.1,x.2.2.2.2.2.2.2.1,x.2.2.2.2.2.2.2.2.1,x.2.2.2.2.2.2.2.2.2.1,()) + wL cE x.2.2.2.2.2.2.2.2.2.2.1:=rfl;unfold Kp;rw [Lr x.2.2.2.2.2.1 (by omega)];rw [toRing (x.2.2.2.2.2.2.1,x.2.2.2.2.2.2.2.1,x.2.2.2.2.2.2.2.2.1,x.2.2.2.2.2.2.2.2.2.1,()) (by omega)];rw [Ko x.2.2.2.2.2.2.2.2.2.2.1 (by omega)];rfl
theorem OQ (x:((List UInt8)×Int×Int×Int×Int×(List dj)×Int×Int×(List R3)×(List R3)×(List di)×Unit)) (h:bU x<=1099511627776):JI x x=some ((),((true,()),())):=by have hw:bU x=x.1.length + wL bT x.2.2.2.2.2.1 + gK (x.2.2.2.2.2.2.1,x.2.2.2.2.2.2.2.1,x.2.2.2.2.2.2.2.2.1,x.2.2.2.2.2.2.2.2.2.1,()) + wL cE x.2.2.2.2.2.2.2.2.2.2.1:=rfl;unfold JI;simp only [bq,eb,Bool.not_true,cond_false,Option.bind_some,beq_self_eq_true,Li x.2.2.2.2.2.1 (by omega),OC (x.2.2.2.2.2.2.1,x.2.2.2.2.2.2.2.1,x.2.2.2.2.2.2.2.2.1,x.2.2.2.2.2.2.2.2.2.1,()) (by omega),Lx x.2.2.2.2.2.2.2.2.2.2.1 (by omega)]
theorem zo (xs:List mA) (hb:xs.length<=aX/\∀ y∈xs,v8 y) (a:Int) (h0:0<=a) (h1:a<=1048576):MH xs a 0=some (if ((cL bU xs:Nat):Int)<=a then .inl (xs,a - (cL bU xs:Nat),(xs.length:Int),()) else .inr (-1,())):=by
 have h:=a6 (step:=fun (x:(List mA)×Int×Int×Unit)=>uD x.1 x.2.1 x.2.2.1) xs (fun i (a:Int)=>(xs,a,((i:Nat):Int),())) (fun _ x (a:Int)=>bif decide ((bU x:Int)<=a) then Sum.inl (a - bU x) else .inr (.inr (-1,())))
  (fun a=> .inl (xs,a,(xs.length:Int),())) (fun _ a=>0<=a/\a<=1048576) (a0:=a) ⟨h0,h1⟩ (fun i x a hx ha=>by
    have hmem:=List.mem_of_getElem? hx;have hlt:=aj hx;show uD xs a (i:Int)=_;unfold uD;rw [aH hx,aC hx,aR _ hx,N5 x a ha.1 ha.2 (hb.2 x hmem),aP (by omega)];dsimp only [cond_true,Option.bind_some];by_cases q:((bU x:Nat):Int)<=a
    . rw [bp q,ay (by omega),decide_eq_true q]; rfl
    . rw [aV q,decide_eq_false q]; rfl) (fun i x a a' hx ha hf=>by
    by_cases q:((bU x:Nat):Int)<=a
    . rw [decide_eq_true q] at hf;simp only [cond_true,Sum.inl.injEq] at hf;omega
    . rw [decide_eq_false q] at hf;simp at hf) (fun a ha=>by
    show uD xs a (xs.length:Int)=_;unfold uD;rw [ax rfl]; rfl)
 rw [qV _ _ _ _ _ _ h0] at h;refine Eq.trans h ?_;split <;> rfl
theorem DP (xs:List mA) (left:Int) (h0:0<=left) (h1:left<=1048576) (hb:xs.length<=aX/\∀ y∈xs,v8 y):UA xs left=some ((),((BB left (wL bU xs),()),())):=by
 have hw:wL bU xs=xs.length + cL bU xs:=rfl;unfold UA;dsimp only;rw [dw (s:=xs) (left:=left) (by omega) (by omega) hb.1];by_cases q:((xs.length:Nat):Int)<=left
 . rw [ay (by omega)];dsimp only [cond_false];rw [zo xs hb _ (by omega) (by omega)];by_cases q2:((cL bU xs:Nat):Int)<=left - (xs.length:Int)
   . rw [if_pos q2,bp (by omega)];dsimp only [Option.bind_some,Sum.elim_inl];have e:left - (xs.length:Int) - (cL bU xs:Nat)=left - ((wL bU xs:Nat):Int):=by omega
     rw [e]
   . rw [if_neg q2,aV (by omega)]; rfl
 . rw [aF (by omega),aV (by omega)]; rfl
theorem K8 (xs:List mA) (h:wL bU xs<=1048576):Uy xs=some ((),((xs,()),())):=by
 have hb:aX=140737488355328:=rfl;have hw:wL bU xs=xs.length + cL bU xs:=rfl;unfold Uy;dsimp only;rw [oC (by decide) (by omega),jc]
 have h:=a6 (step:=fun (x:(List mA)×(List dp)×Int×Unit)=>we x.1 x.2.1 x.2.2.1) xs (fun i (a:List mA)=>(xs,a ++ List.replicate (xs.length - i) d92,((i:Nat):Int),())) (fun _ x (a:List mA)=>Sum.inl (a ++ [x]))
  (fun a=> .inl (xs,a,(xs.length:Int),())) (fun i a=>a.length=i) (a0:=[]) rfl (fun i x a hx ha=>by
    have hlt:=aj hx;have hcm:=im bU hx;show we xs (a ++ List.replicate (xs.length - i) d92) (i:Int)=_;unfold we;obtain ⟨q,hq⟩:∃ q,xs.length - i=q + 1:=⟨xs.length - i - 1,by omega⟩;have hq':xs.length - (i + 1)=q:=by omega
    rw [hq,List.replicate_succ,aH hx,aC hx,aR _ hx,Oy x (by omega)];dsimp only [cond_true,Option.bind_some];simp only [lq ha,vU _ ha,ld ha,aP (show i<=aX by omega),hq',cond_true,List.append_assoc,List.singleton_append]) (fun i x a a' hx ha hf=>by
    simp only [Sum.inl.injEq] at hf;rw [<- hf,List.length_append,ha]; rfl) (fun a ha=>by
    show we xs (a ++ List.replicate (xs.length - xs.length) d92) (xs.length:Int)=_;unfold we;rw [ax rfl,Nat.sub_self,List.replicate_zero,List.append_nil]; rfl)
 rw [jx] at h;have h':M4 xs (List.replicate xs.length d92) 0=_:=h;rw [h']; rfl
theorem Lf (xs:List dp) (h:wL bU xs<=1099511627776):Uq xs xs=some ((),((true,()),())):=by
 have hb:aX=140737488355328:=rfl;have hw:wL bU xs=xs.length + cL bU xs:=rfl;unfold Uq;rw [bq];have h:=aE (step:=fun (x:(List dp)×(List dp)×Int×Unit)=>wA x.1 x.2.1 x.2.2.1) xs (fun i (_:Unit)=>(xs,xs,((i:Nat):Int),())) (fun _ x _=>Sum.inl ()) (fun _=> .inl (xs,xs,(xs.length:Int),())) (a0:=()) (fun i x a hx=>by
  have hlt:=aj hx;have hcm:=im bU hx;show wA xs xs (i:Int)=_;unfold wA;rw [aH hx,aC hx,aR _ hx,OQ x (by omega),aP (by omega)]; rfl) (fun a=>by
  show wA xs xs (xs.length:Int)=_;unfold wA;rw [ax rfl]; rfl)
 rw [bP (fun _ a=>a)] at h;have h':MX xs xs 0=_:=h;rw [h']; rfl
def aY (x:(Int×(List dp)×Unit)):Nat:=wL bU x.2.1
def mg (x:(Int×(List dp)×Unit)):Prop:=(x.2.1.length<=aX/\∀ y∈x.2.1,v8 y)
def Am (x:(Int×(List dp)×Unit)):Prop:=(∀ y∈x.2.1,Hc y)
theorem Hn (x:(Int×(List dp)×Unit)) (left:Int) (h0:0<=left) (h1:left<=1048576) (hb:mg x):UG x left=some ((),((BB left (aY x),()),())):=by
 have hw:aY x=wL bU x.2.1:=rfl;unfold UG
 try dsimp only
 by_cases q0:((wL bU x.2.1:Nat):Int)<=left;rotate_left
 . rw [DP x.2.1 left (by omega) (by omega) (hb),aV q0,aV (by omega)]; rfl
 rw [DP x.2.1 left (by omega) (by omega) (hb),bp q0]; dsimp only [Option.bind_some]; rw [ay (by omega)]; dsimp only [cond_false];rw [bp (by omega)];have e:(left - ((wL bU x.2.1:Nat):Int))=left - ((aY x:Nat):Int):=by omega
 rw [e]
theorem IN (x:(Int×(List dp)×Unit)) (h:aY x<=1048576):Ub x=some ((),(x,())):=by have hw:aY x=wL bU x.2.1:=rfl;unfold Ub;rw [K8 x.2.1 (by omega)];rfl
theorem Gt (x:(Int×(List dp)×Unit)) (h:aY x<=1099511627776):Ut x x=some ((),((true,()),())):=by have hw:aY x=wL bU x.2.1:=rfl;unfold Ut;simp only [bq,eb,Bool.not_true,cond_false,Option.bind_some,beq_self_eq_true,Lf x.2.1 (by omega)]
def cz (x:((List R5)×Int×(List R3)×Int×Int×Int×Int×Int×(List R5)×Unit)):Nat:=x.1.length + x.2.2.1.length + x.2.2.2.2.2.2.2.2.1.length
def uT (x:((List R5)×Int×(List R3)×Int×Int×Int×Int×Int×(List R5)×Unit)):Prop:=x.1.length<=aX/\x.2.2.1.length<=aX/\x.2.2.2.2.2.2.2.2.1.length<=aX
def Cr (x:((List R5)×Int×(List R3)×Int×Int×Int×Int×Int×(List R5)×Unit)):Prop:=(∀ y∈x.1,lK .u8 y.1)/\(∀ y∈x.2.2.2.2.2.2.2.2.1,lK .u8 y.1)
theorem O9 (x:((List R5)×Int×(List R3)×Int×Int×Int×Int×Int×(List R5)×Unit)) (left:Int) (h0:0<=left) (h1:left<=1048576) (hb:uT x):Ug x left=some ((),((BB left (cz x),()),())):=by
 have hw:cz x=x.1.length + x.2.2.1.length + x.2.2.2.2.2.2.2.2.1.length:=rfl;unfold Ug
 try dsimp only
 by_cases q0:((x.1.length:Nat):Int)<=left;rotate_left
 . rw [mM x.1 left (by omega) (by omega) (hb.1),aV q0,aV (by omega)]; rfl
 rw [mM x.1 left (by omega) (by omega) (hb.1),bp q0]; dsimp only [Option.bind_some]; rw [ay (by omega)]; dsimp only [cond_false];by_cases q1:((x.2.2.1.length:Nat):Int)<=(left - ((x.1.length:Nat):Int));rotate_left
 . rw [qO x.2.2.1 (left - ((x.1.length:Nat):Int)) (by omega) (by omega) (hb.2.1),aV q1,aV (by omega)]; rfl
 rw [qO x.2.2.1 (left - ((x.1.length:Nat):Int)) (by omega) (by omega) (hb.2.1),bp q1]; dsimp only [Option.bind_some]; rw [ay (by omega)]; dsimp only [cond_false];by_cases q2:((x.2.2.2.2.2.2.2.2.1.length:Nat):Int)<=((left - ((x.1.length:Nat):Int)) - ((x.2.2.1.length:Nat):Int));rotate_left
 . rw [mM x.2.2.2.2.2.2.2.2.1 ((left - ((x.1.length:Nat):Int)) - ((x.2.2.1.length:Nat):Int)) (by omega) (by omega) (hb.2.2),aV q2,aV (by omega)]; rfl
 rw [mM x.2.2.2.2.2.2.2.2.1 ((left - ((x.1.length:Nat):Int)) - ((x.2.2.1.length:Nat):Int)) (by omega) (by omega) (hb.2.2),bp q2]; dsimp only [Option.bind_some]; rw [ay (by omega)]; dsimp only [cond_false];rw [bp (by omega)];have e:(((left - ((x.1.length:Nat):Int)) - ((x.2.2.1.length:Nat):Int)) - ((x.2.2.2.2.2.2.2.2.1.length:Nat):Int))=left - ((cz x:Nat):Int):=by omega
 rw [e]
theorem toTask (x:((List R5)×Int×(List R3)×Int×Int×Int×Int×Int×(List R5)×Unit)) (h:cz x<=1048576):UO x=some ((),(x,())):=by have hw:cz x=x.1.length + x.2.2.1.length + x.2.2.2.2.2.2.2.2.1.length:=rfl;unfold UO;rw [yq x.1 (by omega)];rw [CB x.2.2.1 (by omega)];rw [yq x.2.2.2.2.2.2.2.2.1 (by omega)];rfl
theorem O7 (x:((List R5)×Int×(List R3)×Int×Int×Int×Int×Int×(List R5)×Unit)) (h:cz x<=1099511627776):Uv x x=some ((),((true,()),())):=by have hw:cz x=x.1.length + x.2.2.1.length + x.2.2.2.2.2.2.2.2.1.length:=rfl;unfold Uv;simp only [bq,eb,Bool.not_true,cond_false,Option.bind_some,beq_self_eq_true,zd x.1 (by omega),Ci x.2.2.1 (by omega),zd x.2.2.2.2.2.2.2.2.1 (by omega)]
theorem vS (xs:List sG) (hb:xs.length<=aX/\∀ y∈xs,mg y) (a:Int) (h0:0<=a) (h1:a<=1048576):Mn xs a 0=some (if ((cL aY xs:Nat):Int)<=a then .inl (xs,a - (cL aY xs:Nat),(xs.length:Int),()) else .inr (-1,())):=by
 have h:=a6 (step:=fun (x:(List sG)×Int×Int×Unit)=>wj x.1 x.2.1 x.2.2.1) xs (fun i (a:Int)=>(xs,a,((i:Nat):Int),())) (fun _ x (a:Int)=>bif decide ((aY x:Int)<=a) then Sum.inl (a - aY x) else .inr (.inr (-1,())))
  (fun a=> .inl (xs,a,(xs.length:Int),())) (fun _ a=>0<=a/\a<=1048576) (a0:=a) ⟨h0,h1⟩ (fun i x a hx ha=>by
    have hmem:=List.mem_of_getElem? hx;have hlt:=aj hx;show wj xs a (i:Int)=_;unfold wj;rw [aH hx,aC hx,aR _ hx,Hn x a ha.1 ha.2 (hb.2 x hmem),aP (by omega)];dsimp only [cond_true,Option.bind_some];by_cases q:((aY x:Nat):Int)<=a
    . rw [bp q,ay (by omega),decide_eq_true q]; rfl
    . rw [aV q,decide_eq_false q]; rfl) (fun i x a a' hx ha hf=>by
    by_cases q:((aY x:Nat):Int)<=a
    . rw [decide_eq_true q] at hf;simp only [cond_true,Sum.inl.injEq] at hf;omega
    . rw [decide_eq_false q] at hf;simp at hf) (fun a ha=>by
    show wj xs a (xs.length:Int)=_;unfold wj;rw [ax rfl]; rfl)
 rw [qV _ _ _ _ _ _ h0] at h;refine Eq.trans h ?_;split <;> rfl
theorem xL (xs:List sG) (left:Int) (h0:0<=left) (h1:left<=1048576) (hb:xs.length<=aX/\∀ y∈xs,mg y):Up xs left=some ((),((BB left (wL aY xs),()),())):=by
 have hw:wL aY xs=xs.length + cL aY xs:=rfl;unfold Up;dsimp only;rw [dw (s:=xs) (left:=left) (by omega) (by omega) hb.1];by_cases q:((xs.length:Nat):Int)<=left
 . rw [ay (by omega)];dsimp only [cond_false];rw [vS xs hb _ (by omega) (by omega)];by_cases q2:((cL aY xs:Nat):Int)<=left - (xs.length:Int)
   . rw [if_pos q2,bp (by omega)];dsimp only [Option.bind_some,Sum.elim_inl];have e:left - (xs.length:Int) - (cL aY xs:Nat)=left - ((wL aY xs:Nat):Int):=by omega
     rw [e]
   . rw [if_neg q2,aV (by omega)]; rfl
 . rw [aF (by omega),aV (by omega)]; rfl
theorem Ef (xs:List sG) (h:wL aY xs<=1048576):Uk xs=some ((),((xs,()),())):=by
 have hb:aX=140737488355328:=rfl;have hw:wL aY xs=xs.length + cL aY xs:=rfl;unfold Uk;dsimp only;rw [oC (by decide) (by omega),jc]
 have h:=a6 (step:=fun (x:(List sG)×(List gk)×Int×Unit)=>tP x.1 x.2.1 x.2.2.1) xs (fun i (a:List sG)=>(xs,a ++ List.replicate (xs.length - i) d67,((i:Nat):Int),())) (fun _ x (a:List sG)=>Sum.inl (a ++ [x]))
  (fun a=> .inl (xs,a,(xs.length:Int),())) (fun i a=>a.length=i) (a0:=[]) rfl (fun i x a hx ha=>by
    have hlt:=aj hx;have hcm:=im aY hx;show tP xs (a ++ List.replicate (xs.length - i) d67) (i:Int)=_;unfold tP;obtain ⟨q,hq⟩:∃ q,xs.length - i=q + 1:=⟨xs.length - i - 1,by omega⟩;have hq':xs.length - (i + 1)=q:=by omega
    rw [hq,List.replicate_succ,aH hx,aC hx,aR _ hx,IN x (by omega)];dsimp only [cond_true,Option.bind_some];simp only [lq ha,vU _ ha,ld ha,aP (show i<=aX by omega),hq',cond_true,List.append_assoc,List.singleton_append]) (fun i x a a' hx ha hf=>by
    simp only [Sum.inl.injEq] at hf;rw [<- hf,List.length_append,ha]; rfl) (fun a ha=>by
    show tP xs (a ++ List.replicate (xs.length - xs.length) d67) (xs.length:Int)=_;unfold tP;rw [ax rfl,Nat.sub_self,List.replicate_zero,List.append_nil]; rfl)
 rw [jx] at h;have h':Mi xs (List.replicate xs.length d67) 0=_:=h;rw [h']; rfl
theorem ED (xs:List gk) (h:wL aY xs<=1099511627776):Us xs xs=some ((),((true,()),())):=by
 have hb:aX=140737488355328:=rfl;have hw:wL aY xs=xs.length + cL aY xs:=rfl;unfold Us;rw [bq];have h:=aE (step:=fun (x:(List gk)×(List gk)×Int×Unit)=>uc x.1 x.2.1 x.2.2.1) xs (fun i (_:Unit)=>(xs,xs,((i:Nat):Int),())) (fun _ x _=>Sum.inl ()) (fun _=> .inl (xs,xs,(xs.length:Int),())) (a0:=()) (fun i x a hx=>by
  have hlt:=aj hx;have hcm:=im aY hx;show uc xs xs (i:Int)=_;unfold uc;rw [aH hx,aC hx,aR _ hx,Gt x (by omega),aP (by omega)]; rfl) (fun a=>by
  show uc xs xs (xs.length:Int)=_;unfold uc;rw [ax rfl]; rfl)
 rw [bP (fun _ a=>a)] at h;have h':ME xs xs 0=_:=h;rw [h']; rfl
theorem zy (xs:List qP) (hb:xs.length<=aX/\∀ y∈xs,uT y) (a:Int) (h0:0<=a) (h1:a<=1048576):Ma xs a 0=some (if ((cL cz xs:Nat):Int)<=a then .inl (xs,a - (cL cz xs:Nat),(xs.length:Int),()) else .inr (-1,())):=by
 have h:=a6 (step:=fun (x:(List qP)×Int×Int×Unit)=>wJ x.1 x.2.1 x.2.2.1) xs (fun i (a:Int)=>(xs,a,((i:Nat):Int),())) (fun _ x (a:Int)=>bif decide ((cz x:Int)<=a) then Sum.inl (a - cz x) else .inr (.inr (-1,())))
  (fun a=> .inl (xs,a,(xs.length:Int),())) (fun _ a=>0<=a/\a<=1048576) (a0:=a) ⟨h0,h1⟩ (fun i x a hx ha=>by
    have hmem:=List.mem_of_getElem? hx;have hlt:=aj hx;show wJ xs a (i:Int)=_;unfold wJ;rw [aH hx,aC hx,aR _ hx,O9 x a ha.1 ha.2 (hb.2 x hmem),aP (by omega)];dsimp only [cond_true,Option.bind_some];by_cases q:((cz x:Nat):Int)<=a
    . rw [bp q,ay (by omega),decide_eq_true q]; rfl
    . rw [aV q,decide_eq_false q]; rfl) (fun i x a a' hx ha hf=>by
    by_cases q:((cz x:Nat):Int)<=a
    . rw [decide_eq_true q] at hf;simp only [cond_true,Sum.inl.injEq] at hf;omega
    . rw [decide_eq_false q] at hf;simp at hf) (fun a ha=>by
    show wJ xs a (xs.length:Int)=_;unfold wJ;rw [ax rfl]; rfl)
 rw [qV _ _ _ _ _ _ h0] at h;refine Eq.trans h ?_;split <;> rfl
theorem C0 (xs:List qP) (left:Int) (h0:0<=left) (h1:left<=1048576) (hb:xs.length<=aX/\∀ y∈xs,uT y):UK xs left=some ((),((BB left (wL cz xs),()),())):=by
 have hw:wL cz xs=xs.length + cL cz xs:=rfl;unfold UK;dsimp only;rw [dw (s:=xs) (left:=left) (by omega) (by omega) hb.1];by_cases q:((xs.length:Nat):Int)<=left
 . rw [ay (by omega)];dsimp only [cond_false];rw [zy xs hb _ (by omega) (by omega)];by_cases q2:((cL cz xs:Nat):Int)<=left - (xs.length:Int)
   . rw [if_pos q2,bp (by omega)];dsimp only [Option.bind_some,Sum.elim_inl];have e:left - (xs.length:Int) - (cL cz xs:Nat)=left - ((wL cz xs:Nat):Int):=by omega
     rw [e]
   . rw [if_neg q2,aV (by omega)]; rfl
 . rw [aF (by omega),aV (by omega)]; rfl
theorem JM (xs:List qP) (h:wL cz xs<=1048576):UT xs=some ((),((xs,()),())):=by
 have hb:aX=140737488355328:=rfl;have hw:wL cz xs=xs.length + cL cz xs:=rfl;unfold UT;dsimp only;rw [oC (by decide) (by omega),jc]
 have h:=a6 (step:=fun (x:(List qP)×(List kQ)×Int×Unit)=>vr x.1 x.2.1 x.2.2.1) xs (fun i (a:List qP)=>(xs,a ++ List.replicate (xs.length - i) d64,((i:Nat):Int),())) (fun _ x (a:List qP)=>Sum.inl (a ++ [x]))
  (fun a=> .inl (xs,a,(xs.length:Int),())) (fun i a=>a.length=i) (a0:=[]) rfl (fun i x a hx ha=>by
    have hlt:=aj hx;have hcm:=im cz hx;show vr xs (a ++ List.replicate (xs.length - i) d64) (i:Int)=_;unfold vr;obtain ⟨q,hq⟩:∃ q,xs.length - i=q + 1:=⟨xs.length - i - 1,by omega⟩;have hq':xs.length - (i + 1)=q:=by omega
    rw [hq,List.replicate_succ,aH hx,aC hx,aR _ hx,toTask x (by omega)];dsimp only [cond_true,Option.bind_some];simp only [lq ha,vU _ ha,ld ha,aP (show i<=aX by omega),hq',cond_true,List.append_assoc,List.singleton_append]) (fun i x a a' hx ha hf=>by
    simp only [Sum.inl.injEq] at hf;rw [<- hf,List.length_append,ha]; rfl) (fun a ha=>by
    show vr xs (a ++ List.replicate (xs.length - xs.length) d64) (xs.length:Int)=_;unfold vr;rw [ax rfl,Nat.sub_self,List.replicate_zero,List.append_nil]; rfl)
 rw [jx] at h;have h':NG xs (List.replicate xs.length d64) 0=_:=h;rw [h']; rfl
theorem LX (xs:List kQ) (h:wL cz xs<=1099511627776):UQ xs xs=some ((),((true,()),())):=by
 have hb:aX=140737488355328:=rfl;have hw:wL cz xs=xs.length + cL cz xs:=rfl;unfold UQ;rw [bq];have h:=aE (step:=fun (x:(List kQ)×(List kQ)×Int×Unit)=>uf x.1 x.2.1 x.2.2.1) xs (fun i (_:Unit)=>(xs,xs,((i:Nat):Int),())) (fun _ x _=>Sum.inl ()) (fun _=> .inl (xs,xs,(xs.length:Int),())) (a0:=()) (fun i x a hx=>by
  have hlt:=aj hx;have hcm:=im cz hx;show uf xs xs (i:Int)=_;unfold uf;rw [aH hx,aC hx,aR _ hx,O7 x (by omega),aP (by omega)]; rfl) (fun a=>by
  show uf xs xs (xs.length:Int)=_;unfold uf;rw [ax rfl]; rfl)
 rw [bP (fun _ a=>a)] at h;have h':Nr xs xs 0=_:=h;rw [h']; rfl
def ju (x:((List sG)×Int×Int×(List qP)×Unit)):Nat:=wL aY x.1 + wL cz x.2.2.2.1
def yQ (x:((List sG)×Int×Int×(List qP)×Unit)):Prop:=(x.1.length<=aX/\∀ y∈x.1,mg y)/\(x.2.2.2.1.length<=aX/\∀ y∈x.2.2.2.1,uT y)
def zi (x:((List sG)×Int×Int×(List qP)×Unit)):Prop:=(∀ y∈x.1,Am y)/\(∀ y∈x.2.2.2.1,Cr y)
theorem J5 (x:((List sG)×Int×Int×(List qP)×Unit)) (left:Int) (h0:0<=left) (h1:left<=1048576) (hb:yQ x):g8 x left=some ((),((BB left (ju x),()),())):=by
 have hw:ju x=wL aY x.1 + wL cz x.2.2.2.1:=rfl;unfold g8
 try dsimp only
 by_cases q0:((wL aY x.1:Nat):Int)<=left;rotate_left
 . rw [xL x.1 left (by omega) (by omega) (hb.1),aV q0,aV (by omega)]; rfl
 rw [xL x.1 left (by omega) (by omega) (hb.1),bp q0]; dsimp only [Option.bind_some]; rw [ay (by omega)]; dsimp only [cond_false];by_cases q1:((wL cz x.2.2.2.1:Nat):Int)<=(left - ((wL aY x.1:Nat):Int));rotate_left
 . rw [C0 x.2.2.2.1 (left - ((wL aY x.1:Nat):Int)) (by omega) (by omega) (hb.2),aV q1,aV (by omega)]; rfl
 rw [C0 x.2.2.2.1 (left - ((wL aY x.1:Nat):Int)) (by omega) (by omega) (hb.2),bp q1]; dsimp only [Option.bind_some]; rw [ay (by omega)]; dsimp only [cond_false];rw [bp (by omega)];have e:((left - ((wL aY x.1:Nat):Int)) - ((wL cz x.2.2.2.1:Nat):Int))=left - ((ju x:Nat):Int):=by omega
 rw [e]
theorem LN (x:((List sG)×Int×Int×(List qP)×Unit)) (h:ju x<=1048576):g10 x=some ((),(x,())):=by have hw:ju x=wL aY x.1 + wL cz x.2.2.2.1:=rfl;unfold g10;rw [Ef x.1 (by omega)];rw [JM x.2.2.2.1 (by omega)];rfl
theorem Ld (x:((List sG)×Int×Int×(List qP)×Unit)) (h:ju x<=1099511627776):g12 x x=some ((),((true,()),())):=by have hw:ju x=wL aY x.1 + wL cz x.2.2.2.1:=rfl;unfold g12;simp only [bq,eb,Bool.not_true,cond_false,Option.bind_some,beq_self_eq_true,ED x.1 (by omega),LX x.2.2.2.1 (by omega)]
end Go.Av
