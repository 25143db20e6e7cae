/- Part of a proof that the law FnExactWorkLeft answers true for every input: the printed functions of this program and their plain laws. No conditions beyond the statement. -/
import Derived.Test.YtpgkhfcgbjangaaGreatDoorP1
import Derived.Test.YtpgkhfcgbjangaaGreatDoorFw4
set_option maxRecDepth 100000
set_option maxHeartbeats 4000000
namespace Go.Av
def bT (x:((List UInt8)×Int×Int×Unit)):Nat:=x.1.length
def vI (x:((List UInt8)×Int×Int×Unit)):Prop:=x.1.length<=aX
theorem OF (x:((List UInt8)×Int×Int×Unit)) (left:Int) (h0:0<=left) (h1:left<=1048576) (hb:vI x):JS x left=some ((),((BA left (bT x),()),())):=by
 have hw:bT x=x.1.length:=rfl;unfold JS
 try dsimp only
 by_cases q0:((x.1.length:Nat):Int)<=left;rotate_left
 . rw [dt (s:=x.1) (left:=left) (by omega) (by omega) hb]; rw [aF (by omega),aU (by omega)]; rfl
 rw [dt (s:=x.1) (left:=left) (by omega) (by omega) hb]; rw [az (by omega)]; dsimp only [cond_false];rw [bp (by omega)];have e:(left - ((x.1.length:Nat):Int))=left - ((bT x:Nat):Int):=by omega
 rw [e]
theorem OI (x:((List UInt8)×Int×Int×Unit)) (h:bT x<=1048576):JU x=some ((),(x,())):=by have hw:bT x=x.1.length:=rfl;unfold JU;rfl
theorem OL (x:((List UInt8)×Int×Int×Unit)) (h:bT x<=1099511627776):Lg x x=some ((),((true,()),())):=by have hw:bT x=x.1.length:=rfl;unfold Lg;simp only [bq,eb,Bool.not_true,cond_false,Option.bind_some,beq_self_eq_true]
theorem qM (x:(List R3)) (left:Int) (h0:0<=left) (h1:left<=1048576) (hb:x.length<=aX):Qd x left=some ((),((BA left x.length,()),())):=by
 unfold Qd;dsimp only;by_cases q:((x.length:Nat):Int)<=left
 . rw [dt (s:=x) (left:=left) (by omega) (by omega) hb,az (by omega),bp q]; rfl
 . rw [dt (s:=x) (left:=left) (by omega) (by omega) hb,aF (by omega),aU q]; rfl
theorem CA (xs:List R3) (h:xs.length<=1048576):Qg xs=some ((),((xs,()),())):=by
 have hb:aX=140737488355328:=rfl;unfold Qg;dsimp only;rw [oq (by decide) (by omega),iV]
 have h:=a6 (step:=fun (x:(List R3)×(List R3)×Int×Unit)=>uO x.1 x.2.1 x.2.2.1) xs (fun i (a:List R3)=>(xs,a ++ List.replicate (xs.length - i) d3,((i:Nat):Int),())) (fun _ x (a:List R3)=>Sum.inl (a ++ [x]))
  (fun a=> .inl (xs,a,(xs.length:Int),())) (fun i a=>a.length=i) (a0:=[]) rfl (fun i x a hx ha=>by
    have hlt:=ak hx;show uO xs (a ++ List.replicate (xs.length - i) d3) (i:Int)=_;unfold uO;obtain ⟨q,hq⟩:∃ q,xs.length - i=q + 1:=⟨xs.length - i - 1,by omega⟩;have hq':xs.length - (i + 1)=q:=by omega
    rw [hq,List.replicate_succ,aG hx,aC hx,kY ha,aV _ hx,kP ha,aP (by omega),hq'];dsimp only [cond_true];rw [List.append_assoc]; rfl) (fun i x a a' hx ha hf=>by
    simp only [Sum.inl.injEq] at hf;rw [<- hf,List.length_append,ha]; rfl) (fun a ha=>by
    show uO xs (a ++ List.replicate (xs.length - xs.length) d3) (xs.length:Int)=_;unfold uO;rw [ax rfl,Nat.sub_self,List.replicate_zero,List.append_nil]; rfl)
 rw [jl] at h;have h':MQ xs (List.replicate xs.length d3) 0=_:=h;rw [h']; rfl
theorem Ce (xs:List R3) (h:xs.length<=1099511627776):g24 xs xs=some ((),((true,()),())):=by
 have hb:aX=140737488355328:=rfl;unfold g24;rw [bq];have h:=aD (step:=fun (x:(List R3)×(List R3)×Int×Unit)=>tU x.1 x.2.1 x.2.2.1) xs (fun i (_:Unit)=>(xs,xs,((i:Nat):Int),())) (fun _ x _=>Sum.inl ()) (fun _=> .inl (xs,xs,(xs.length:Int),())) (a0:=()) (fun i x a hx=>by
  have hlt:=ak hx;show tU xs xs (i:Int)=_;unfold tU;rw [aG hx,aC hx,aV _ hx,bq,aP (by omega)]; rfl) (fun a=>by
  show tU xs xs (xs.length:Int)=_;unfold tU;rw [ax rfl]; rfl)
 rw [bC (fun _ a=>a)] at h;have h':Mj xs xs 0=_:=h;rw [h']; rfl
def gI (x:(Int×Int×(List R3)×(List R3)×Unit)):Nat:=x.2.2.1.length + x.2.2.2.1.length
def Hw (x:(Int×Int×(List R3)×(List R3)×Unit)):Prop:=x.2.2.1.length<=aX/\x.2.2.2.1.length<=aX
theorem Iy (x:(Int×Int×(List R3)×(List R3)×Unit)) (left:Int) (h0:0<=left) (h1:left<=1048576) (hb:Hw x):LL x left=some ((),((BA left (gI x),()),())):=by
 have hw:gI x=x.2.2.1.length + x.2.2.2.1.length:=rfl;unfold LL
 try dsimp only
 by_cases q0:((x.2.2.1.length:Nat):Int)<=left;rotate_left
 . rw [qM x.2.2.1 left (by omega) (by omega) (hb.1),aU q0,aU (by omega)]; rfl
 rw [qM x.2.2.1 left (by omega) (by omega) (hb.1),bp q0]; dsimp only [Option.bind_some]; rw [az (by omega)]; dsimp only [cond_false];by_cases q1:((x.2.2.2.1.length:Nat):Int)<=(left - ((x.2.2.1.length:Nat):Int));rotate_left
 . rw [qM x.2.2.2.1 (left - ((x.2.2.1.length:Nat):Int)) (by omega) (by omega) (hb.2),aU q1,aU (by omega)]; rfl
 rw [qM x.2.2.2.1 (left - ((x.2.2.1.length:Nat):Int)) (by omega) (by omega) (hb.2),bp q1]; dsimp only [Option.bind_some]; rw [az (by omega)]; dsimp only [cond_false];rw [bp (by omega)];have e:((left - ((x.2.2.1.length:Nat):Int)) - ((x.2.2.2.1.length:Nat):Int))=left - ((gI x:Nat):Int):=by omega
 rw [e]
theorem toRing (x:(Int×Int×(List R3)×(List R3)×Unit)) (h:gI x<=1048576):KI x=some ((),(x,())):=by have hw:gI x=x.2.2.1.length + x.2.2.2.1.length:=rfl;unfold KI;rw [CA x.2.2.1 (by omega)];rw [CA x.2.2.2.1 (by omega)];rfl
theorem Oc (x:(Int×Int×(List R3)×(List R3)×Unit)) (h:gI x<=1099511627776):LY x x=some ((),((true,()),())):=by have hw:gI x=x.2.2.1.length + x.2.2.2.1.length:=rfl;unfold LY;simp only [bq,eb,Bool.not_true,cond_false,Option.bind_some,beq_self_eq_true,Ce x.2.2.1 (by omega),Ce x.2.2.2.1 (by omega)]
theorem mR (x:(List R5)) (left:Int) (h0:0<=left) (h1:left<=1048576) (hb:x.length<=aX):Qa x left=some ((),((BA left x.length,()),())):=by
 unfold Qa;dsimp only;by_cases q:((x.length:Nat):Int)<=left
 . rw [dt (s:=x) (left:=left) (by omega) (by omega) hb,az (by omega),bp q]; rfl
 . rw [dt (s:=x) (left:=left) (by omega) (by omega) hb,aF (by omega),aU q]; rfl
theorem yx (xs:List R5) (h:xs.length<=1048576):Qb xs=some ((),((xs,()),())):=by
 have hb:aX=140737488355328:=rfl;unfold Qb;dsimp only;rw [oq (by decide) (by omega),iV]
 have h:=a6 (step:=fun (x:(List R5)×(List R5)×Int×Unit)=>wE x.1 x.2.1 x.2.2.1) xs (fun i (a:List R5)=>(xs,a ++ List.replicate (xs.length - i) d5,((i:Nat):Int),())) (fun _ x (a:List R5)=>Sum.inl (a ++ [x]))
  (fun a=> .inl (xs,a,(xs.length:Int),())) (fun i a=>a.length=i) (a0:=[]) rfl (fun i x a hx ha=>by
    have hlt:=ak hx;show wE xs (a ++ List.replicate (xs.length - i) d5) (i:Int)=_;unfold wE;obtain ⟨q,hq⟩:∃ q,xs.length - i=q + 1:=⟨xs.length - i - 1,by omega⟩;have hq':xs.length - (i + 1)=q:=by omega
    rw [hq,List.replicate_succ,aG hx,aC hx,kY ha,aV _ hx,kP ha,aP (by omega),hq'];dsimp only [cond_true];rw [List.append_assoc]; rfl) (fun i x a a' hx ha hf=>by
    simp only [Sum.inl.injEq] at hf;rw [<- hf,List.length_append,ha]; rfl) (fun a ha=>by
    show wE xs (a ++ List.replicate (xs.length - xs.length) d5) (xs.length:Int)=_;unfold wE;rw [ax rfl,Nat.sub_self,List.replicate_zero,List.append_nil]; rfl)
 rw [jl] at h;have h':NA xs (List.replicate xs.length d5) 0=_:=h;rw [h']; rfl
theorem yC (xs:List R5) (h:xs.length<=1099511627776):Qh xs xs=some ((),((true,()),())):=by
 have hb:aX=140737488355328:=rfl;unfold Qh;rw [bq];have h:=aD (step:=fun (x:(List R5)×(List R5)×Int×Unit)=>tP x.1 x.2.1 x.2.2.1) xs (fun i (_:Unit)=>(xs,xs,((i:Nat):Int),())) (fun _ x _=>Sum.inl ()) (fun _=> .inl (xs,xs,(xs.length:Int),())) (a0:=()) (fun i x a hx=>by
  have hlt:=ak hx;show tP xs xs (i:Int)=_;unfold tP;rw [aG hx,aC hx,aV _ hx,bq,aP (by omega)]; rfl) (fun a=>by
  show tP xs xs (xs.length:Int)=_;unfold tP;rw [ax rfl]; rfl)
 rw [bC (fun _ a=>a)] at h;have h':NF xs xs 0=_:=h;rw [h']; rfl
def cE (x:((List UInt8)×(List UInt8)×(List R5)×Unit)):Nat:=x.1.length + x.2.1.length + x.2.2.1.length
def tD (x:((List UInt8)×(List UInt8)×(List R5)×Unit)):Prop:=x.1.length<=aX/\x.2.1.length<=aX/\x.2.2.1.length<=aX
def HZ (x:((List UInt8)×(List UInt8)×(List R5)×Unit)):Prop:=(∀ y∈x.2.2.1,lJ .u8 y.1)
theorem Ob (x:((List UInt8)×(List UInt8)×(List R5)×Unit)) (left:Int) (h0:0<=left) (h1:left<=1048576) (hb:tD x):KH x left=some ((),((BA left (cE x),()),())):=by
 have hw:cE x=x.1.length + x.2.1.length + x.2.2.1.length:=rfl;unfold KH
 try dsimp only
 by_cases q0:((x.1.length:Nat):Int)<=left;rotate_left
 . rw [dt (s:=x.1) (left:=left) (by omega) (by omega) hb.1]; rw [aF (by omega),aU (by omega)]; rfl
 rw [dt (s:=x.1) (left:=left) (by omega) (by omega) hb.1]; rw [az (by omega)]; dsimp only [cond_false];by_cases q1:((x.2.1.length:Nat):Int)<=(left - ((x.1.length:Nat):Int));rotate_left
 . rw [dt (s:=x.2.1) (left:=(left - ((x.1.length:Nat):Int))) (by omega) (by omega) hb.2.1]; rw [aF (by omega),aU (by omega)]; rfl
 rw [dt (s:=x.2.1) (left:=(left - ((x.1.length:Nat):Int))) (by omega) (by omega) hb.2.1]; rw [az (by omega)]; dsimp only [cond_false];by_cases q2:((x.2.2.1.length:Nat):Int)<=((left - ((x.1.length:Nat):Int)) - ((x.2.1.length:Nat):Int));rotate_left
 . rw [mR x.2.2.1 ((left - ((x.1.length:Nat):Int)) - ((x.2.1.length:Nat):Int)) (by omega) (by omega) (hb.2.2),aU q2,aU (by omega)]; rfl
 rw [mR x.2.2.1 ((left - ((x.1.length:Nat):Int)) - ((x.2.1.length:Nat):Int)) (by omega) (by omega) (hb.2.2),bp q2]; dsimp only [Option.bind_some]; rw [az (by omega)]; dsimp only [cond_false];rw [bp (by omega)];have e:(((left - ((x.1.length:Nat):Int)) - ((x.2.1.length:Nat):Int)) - ((x.2.2.1.length:Nat):Int))=left - ((cE x:Nat):Int):=by omega
 rw [e]
theorem Pr (x:((List UInt8)×(List UInt8)×(List R5)×Unit)) (h:cE x<=1048576):JR x=some ((),(x,())):=by have hw:cE x=x.1.length + x.2.1.length + x.2.2.1.length:=rfl;unfold JR;rw [yx x.2.2.1 (by omega)];rfl
theorem On (x:((List UInt8)×(List UInt8)×(List R5)×Unit)) (h:cE x<=1099511627776):KL x x=some ((),((true,()),())):=by have hw:cE x=x.1.length + x.2.1.length + x.2.2.1.length:=rfl;unfold KL;simp only [bq,eb,Bool.not_true,cond_false,Option.bind_some,beq_self_eq_true,yC x.2.2.1 (by omega)]
theorem yM (xs:List mB) (hb:xs.length<=aX/\∀ y∈xs,vI y) (a:Int) (h0:0<=a) (h1:a<=1048576):H9 xs a 0=some (if ((cL bT xs:Nat):Int)<=a then .inl (xs,a - (cL bT xs:Nat),(xs.length:Int),()) else .inr (-1,())):=by
 have h:=a6 (step:=fun (x:(List mB)×Int×Int×Unit)=>pf x.1 x.2.1 x.2.2.1) xs (fun i (a:Int)=>(xs,a,((i:Nat):Int),())) (fun _ x (a:Int)=>bif decide ((bT x:Int)<=a) then Sum.inl (a - bT x) else .inr (.inr (-1,())))
  (fun a=> .inl (xs,a,(xs.length:Int),())) (fun _ a=>0<=a/\a<=1048576) (a0:=a) ⟨h0,h1⟩ (fun i x a hx ha=>by
    have hmem:=List.mem_of_getElem? hx;have hlt:=ak hx;show pf xs a (i:Int)=_;unfold pf;rw [aG hx,aC hx,aV _ hx,OF x a ha.1 ha.2 (hb.2 x hmem),aP (by omega)];dsimp only [cond_true,Option.bind_some];by_cases q:((bT x:Nat):Int)<=a
    . rw [bp q,az (by omega),decide_eq_true q]; rfl
    . rw [aU q,decide_eq_false q]; rfl) (fun i x a a' hx ha hf=>by
    by_cases q:((bT x:Nat):Int)<=a
    . rw [decide_eq_true q] at hf;simp only [cond_true,Sum.inl.injEq] at hf;omega
    . rw [decide_eq_false q] at hf;simp at hf) (fun a ha=>by
    show pf xs a (xs.length:Int)=_;unfold pf;rw [ax rfl]; rfl)
 rw [qV _ _ _ _ _ _ h0] at h;refine Eq.trans h ?_;split <;> rfl
theorem Dl (xs:List mB) (left:Int) (h0:0<=left) (h1:left<=1048576) (hb:xs.length<=aX/\∀ y∈xs,vI y):KX xs left=some ((),((BA left (wL bT xs),()),())):=by
 have hw:wL bT xs=xs.length + cL bT xs:=rfl;unfold KX;dsimp only;rw [dt (s:=xs) (left:=left) (by omega) (by omega) hb.1];by_cases q:((xs.length:Nat):Int)<=left
 . rw [az (by omega)];dsimp only [cond_false];rw [yM xs hb _ (by omega) (by omega)];by_cases q2:((cL bT xs:Nat):Int)<=left - (xs.length:Int)
   . rw [if_pos q2,bp (by omega)];dsimp only [Option.bind_some,Sum.elim_inl];have e:left - (xs.length:Int) - (cL bT xs:Nat)=left - ((wL bT xs:Nat):Int):=by omega
     rw [e]
   . rw [if_neg q2,aU (by omega)]; rfl
 . rw [aF (by omega),aU (by omega)]; rfl
theorem K3 (xs:List mB) (h:wL bT xs<=1048576):Ld xs=some ((),((xs,()),())):=by
 have hb:aX=140737488355328:=rfl;have hw:wL bT xs=xs.length + cL bT xs:=rfl;unfold Ld;dsimp only;rw [oq (by decide) (by omega),iV]
 have h:=a6 (step:=fun (x:(List mB)×(List dj)×Int×Unit)=>nw x.1 x.2.1 x.2.2.1) xs (fun i (a:List mB)=>(xs,a ++ List.replicate (xs.length - i) d157,((i:Nat):Int),())) (fun _ x (a:List mB)=>Sum.inl (a ++ [x]))
  (fun a=> .inl (xs,a,(xs.length:Int),())) (fun i a=>a.length=i) (a0:=[]) rfl (fun i x a hx ha=>by
    have hlt:=ak hx;have hcm:=iv bT hx;show nw xs (a ++ List.replicate (xs.length - i) d157) (i:Int)=_;unfold nw;obtain ⟨q,hq⟩:∃ q,xs.length - i=q + 1:=⟨xs.length - i - 1,by omega⟩;have hq':xs.length - (i + 1)=q:=by omega
    rw [hq,List.replicate_succ,aG hx,aC hx,aV _ hx,OI x (by omega)];dsimp only [cond_true,Option.bind_some];simp only [kY ha,vU _ ha,kP ha,aP (show i<=aX by omega),hq',cond_true,List.append_assoc,List.singleton_append]) (fun i x a a' hx ha hf=>by
    simp only [Sum.inl.injEq] at hf;rw [<- hf,List.length_append,ha]; rfl) (fun a ha=>by
    show nw xs (a ++ List.replicate (xs.length - xs.length) d157) (xs.length:Int)=_;unfold nw;rw [ax rfl,Nat.sub_self,List.replicate_zero,List.append_nil]; rfl)
 rw [jl] at h;have h':HY xs (List.replicate xs.length d157) 0=_:=h;rw [h']; rfl
theorem LF (xs:List dj) (h:wL bT xs<=1099511627776):Kj xs xs=some ((),((true,()),())):=by
 have hb:aX=140737488355328:=rfl;have hw:wL bT xs=xs.length + cL bT xs:=rfl;unfold Kj;rw [bq];have h:=aD (step:=fun (x:(List dj)×(List dj)×Int×Unit)=>pd x.1 x.2.1 x.2.2.1) xs (fun i (_:Unit)=>(xs,xs,((i:Nat):Int),())) (fun _ x _=>Sum.inl ()) (fun _=> .inl (xs,xs,(xs.length:Int),())) (a0:=()) (fun i x a hx=>by
  have hlt:=ak hx;have hcm:=iv bT hx;show pd xs xs (i:Int)=_;unfold pd;rw [aG hx,aC hx,aV _ hx,OL x (by omega),aP (by omega)]; rfl) (fun a=>by
  show pd xs xs (xs.length:Int)=_;unfold pd;rw [ax rfl]; rfl)
 rw [bC (fun _ a=>a)] at h;have h':Hd xs xs 0=_:=h;rw [h']; rfl
theorem ym (xs:List kZ) (hb:xs.length<=aX/\∀ y∈xs,tD y) (a:Int) (h0:0<=a) (h1:a<=1048576):I0 xs a 0=some (if ((cL cE xs:Nat):Int)<=a then .inl (xs,a - (cL cE xs:Nat),(xs.length:Int),()) else .inr (-1,())):=by
 have h:=a6 (step:=fun (x:(List kZ)×Int×Int×Unit)=>nL x.1 x.2.1 x.2.2.1) xs (fun i (a:Int)=>(xs,a,((i:Nat):Int),())) (fun _ x (a:Int)=>bif decide ((cE x:Int)<=a) then Sum.inl (a - cE x) else .inr (.inr (-1,())))
  (fun a=> .inl (xs,a,(xs.length:Int),())) (fun _ a=>0<=a/\a<=1048576) (a0:=a) ⟨h0,h1⟩ (fun i x a hx ha=>by
    have hmem:=List.mem_of_getElem? hx;have hlt:=ak hx;show nL xs a (i:Int)=_;unfold nL;rw [aG hx,aC hx,aV _ hx,Ob x a ha.1 ha.2 (hb.2 x hmem),aP (by omega)];dsimp only [cond_true,Option.bind_some];by_cases q:((cE x:Nat):Int)<=a
    . rw [bp q,az (by omega),decide_eq_true q]; rfl
    . rw [aU q,decide_eq_false q]; rfl) (fun i x a a' hx ha hf=>by
    by_cases q:((cE x:Nat):Int)<=a
    . rw [decide_eq_true q] at hf;simp only [cond_true,Sum.inl.injEq] at hf;omega
    . rw [decide_eq_false q] at hf;simp at hf) (fun a ha=>by
    show nL xs a (xs.length:Int)=_;unfold nL;rw [ax rfl]; rfl)
 rw [qV _ _ _ _ _ _ h0] at h;refine Eq.trans h ?_;split <;> rfl
theorem DL (xs:List kZ) (left:Int) (h0:0<=left) (h1:left<=1048576) (hb:xs.length<=aX/\∀ y∈xs,tD y):LD xs left=some ((),((BA left (wL cE xs),()),())):=by
 have hw:wL cE xs=xs.length + cL cE xs:=rfl;unfold LD;dsimp only;rw [dt (s:=xs) (left:=left) (by omega) (by omega) hb.1];by_cases q:((xs.length:Nat):Int)<=left
 . rw [az (by omega)];dsimp only [cond_false];rw [ym xs hb _ (by omega) (by omega)];by_cases q2:((cL cE xs:Nat):Int)<=left - (xs.length:Int)
   . rw [if_pos q2,bp (by omega)];dsimp only [Option.bind_some,Sum.elim_inl];have e:left - (xs.length:Int) - (cL cE xs:Nat)=left - ((wL cE xs:Nat):Int):=by omega
     rw [e]
   . rw [if_neg q2,aU (by omega)]; rfl
 . rw [aF (by omega),aU (by omega)]; rfl
theorem L7 (xs:List kZ) (h:wL cE xs<=1048576):JT xs=some ((),((xs,()),())):=by
 have hb:aX=140737488355328:=rfl;have hw:wL cE xs=xs.length + cL cE xs:=rfl;unfold JT;dsimp only;rw [oq (by decide) (by omega),iV]
 have h:=a6 (step:=fun (x:(List kZ)×(List dh)×Int×Unit)=>ot x.1 x.2.1 x.2.2.1) xs (fun i (a:List kZ)=>(xs,a ++ List.replicate (xs.length - i) d160,((i:Nat):Int),())) (fun _ x (a:List kZ)=>Sum.inl (a ++ [x]))
  (fun a=> .inl (xs,a,(xs.length:Int),())) (fun i a=>a.length=i) (a0:=[]) rfl (fun i x a hx ha=>by
    have hlt:=ak hx;have hcm:=iv cE hx;show ot xs (a ++ List.replicate (xs.length - i) d160) (i:Int)=_;unfold ot;obtain ⟨q,hq⟩:∃ q,xs.length - i=q + 1:=⟨xs.length - i - 1,by omega⟩;have hq':xs.length - (i + 1)=q:=by omega
    rw [hq,List.replicate_succ,aG hx,aC hx,aV _ hx,Pr x (by omega)];dsimp only [cond_true,Option.bind_some];simp only [kY ha,vU _ ha,kP ha,aP (show i<=aX by omega),hq',cond_true,List.append_assoc,List.singleton_append]) (fun i x a a' hx ha hf=>by
    simp only [Sum.inl.injEq] at hf;rw [<- hf,List.length_append,ha]; rfl) (fun a ha=>by
    show ot xs (a ++ List.replicate (xs.length - xs.length) d160) (xs.length:Int)=_;unfold ot;rw [ax rfl,Nat.sub_self,List.replicate_zero,List.append_nil]; rfl)
 rw [jl] at h;have h':H5 xs (List.replicate xs.length d160) 0=_:=h;rw [h']; rfl
theorem JM (xs:List dh) (h:wL cE xs<=1099511627776):KC xs xs=some ((),((true,()),())):=by
 have hb:aX=140737488355328:=rfl;have hw:wL cE xs=xs.length + cL cE xs:=rfl;unfold KC;rw [bq];have h:=aD (step:=fun (x:(List dh)×(List dh)×Int×Unit)=>nz x.1 x.2.1 x.2.2.1) xs (fun i (_:Unit)=>(xs,xs,((i:Nat):Int),())) (fun _ x _=>Sum.inl ()) (fun _=> .inl (xs,xs,(xs.length:Int),())) (a0:=()) (fun i x a hx=>by
  have hlt:=ak hx;have hcm:=iv cE hx;show nz xs xs (i:Int)=_;unfold nz;rw [aG hx,aC hx,aV _ hx,On x (by omega),aP (by omega)]; rfl) (fun a=>by
  show nz xs xs (xs.length:Int)=_;unfold nz;rw [ax rfl]; rfl)
 rw [bC (fun _ a=>a)] at h;have h':Hu xs xs 0=_:=h;rw [h']; rfl
def bU (x:((List UInt8)×Int×Int×Int×Int×(List dj)×Int×Int×(List R3)×(List R3)×(List dh)×Unit)):Nat:=x.1.length + wL bT x.2.2.2.2.2.1 + gI (x.2.2.2.2.2.2.1,x.2.2.2.2.2.2.2.1,x.2.2.2.2.2.2.2.2.1,x.2.2.2.2.2.2.2.2.2.1,()) + wL cE x.2.2.2.2.2.2.2.2.2.2.1
def ua (x:((List UInt8)×Int×Int×Int×Int×(List dj)×Int×Int×(List R3)×(List R3)×(List dh)×Unit)):Prop:=x.1.length<=aX/\(x.2.2.2.2.2.1.length<=aX/\∀ y∈x.2.2.2.2.2.1,vI y)/\Hw (x.2.2.2.2.2.2.1,x.2.2.2.2.2.2.2.1,x.2.2.2.2.2.2.2.2.1,x.2.2.2.2.2.2.2.2.2.1,())/\(x.2.2.2.2.2.2.2.2.2.2.1.length<=aX/\∀ y∈x.2.2.2.2.2.2.2.2.2.2.1,tD y)
def IB (x:((List UInt8)×Int×Int×Int×Int×(List dj)×Int×Int×(List R3)×(List R3)×(List dh)×Unit)):Prop:=(∀ y∈x.2.2.2.2.2.2.2.2.2.2.1,HZ y)
theorem Oj (x:((List UInt8)×Int×Int×Int×Int×(List dj)×Int×Int×(List R3)×(List R3)×(List dh)×Unit)) (left:Int) (h0:0<=left) (h1:left<=1048576) (hb:ua x):UF x left=some ((),((BA left (bU x),()),())):=by
 have hw:bU x=x.1.length + wL bT x.2.2.2.2.2.1 + gI (x.2.2.2.2.2.2.1,x.2.2.2.2.2.2.2.1,x.2.2.2.2.2.2.2.2.1,x.2.2.2.2.2.2.2.2.2.1,()) + wL cE x.2.2.2.2.2.2.2.2.2.2.1:=rfl;unfold UF
 try dsimp only
 by_cases q0:((x.1.length:Nat):Int)<=left;rotate_left
 . rw [dt (s:=x.1) (left:=left) (by omega) (by omega) hb.1]; rw [aF (by omega),aU (by omega)]; rfl
 rw [dt (s:=x.1) (left:=left) (by omega) (by omega) hb.1]; rw [az (by omega)]; dsimp only [cond_false];by_cases q1:((wL bT x.2.2.2.2.2.1:Nat):Int)<=(left - ((x.1.length:Nat):Int));rotate_left
 . rw [Dl x.2.2.2.2.2.1 (left - ((x.1.length:Nat):Int)) (by omega) (by omega) (hb.2.1),aU q1,aU (by omega)]; rfl
 rw [Dl x.2.2.2.2.2.1 (left - ((x.1.length:Nat):Int)) (by omega) (by omega) (hb.2.1),bp q1]; dsimp only [Option.bind_some]; rw [az (by omega)]; dsimp only [cond_false];by_cases q2:((gI (x.2.2.2.2.2.2.1,x.2.2.2.2.2.2.2.1,x.2.2.2.2.2.2.2.2.1,x.2.2.2.2.2.2.2.2.2.1,()):Nat):Int)<=((left - ((x.1.length:Nat):Int)) - ((wL bT x.2.2.2.2.2.1:Nat):Int));rotate_left
 . rw [Iy (x.2.2.2.2.2.2.1,x.2.2.2.2.2.2.2.1,x.2.2.2.2.2.2.2.2.1,x.2.2.2.2.2.2.2.2.2.1,()) ((left - ((x.1.length:Nat):Int)) - ((wL bT x.2.2.2.2.2.1:Nat):Int)) (by omega) (by omega) (hb.2.2.1),aU q2,aU (by omega)]; rfl
 rw [Iy (x.2.2.2.2.2.2.1,x.2.2.2.2.2.2.2.1,x.2.2.2.2.2.2.2.2.1,x.2.2.2.2.2.2.2.2.2.1,()) ((left - ((x.1.length:Nat):Int)) - ((wL bT x.2.2.2.2.2.1:Nat):Int)) (by omega) (by omega) (hb.2.2.1),bp q2]; dsimp only [Option.bind_some]; rw [az (by omega)]; dsimp only [cond_false];by_cases q3:((wL cE x.2.2.2.2.2.2.2.2.2.2.1:Nat):Int)<=(((left - ((x.1.length:Nat):Int)) - ((wL bT x.2.2.2.2.2.1:Nat):Int)) - ((gI (x.2.2.2.2.2.2.1,x.2.2.2.2.2.2.2.1,x.2.2.2.2.2.2.2.2.1,x.2.2.2.2.2.2.2.2.2.1,()):Nat):Int));rotate_left
 . rw [DL x.2.2.2.2.2.2.2.2.2.2.1 (((left - ((x.1.length:Nat):Int)) - ((wL bT x.2.2.2.2.2.1:Nat):Int)) - ((gI (x.2.2.2.2.2.2.1,x.2.2.2.2.2.2.2.1,x.2.2.2.2.2.2.2.2.1,x.2.2.2.2.2.2.2.2.2.1,()):Nat):Int)) (by omega) (by omega) (hb.2.2.2),aU q3,aU (by omega)]; rfl
 rw [DL x.2.2.2.2.2.2.2.2.2.2.1 (((left - ((x.1.length:Nat):Int)) - ((wL bT x.2.2.2.2.2.1:Nat):Int)) - ((gI (x.2.2.2.2.2.2.1,x.2.2.2.2.2.2.2.1,x.2.2.2.2.2.2.2.2.1,x.2.2.2.2.2.2.2.2.2.1,()):Nat):Int)) (by omega) (by omega) (hb.2.2.2),bp q3]; dsimp only [Option.bind_some]; rw [az (by omega)]; dsimp only [cond_false];rw [bp (by omega)];have e:((((left - ((x.1.length:Nat):Int)) - ((wL bT x.2.2.2.2.2.1:Nat):Int)) - ((gI (x.2.2.2.2.2.2.1,x.2.2.2.2.2.2.2.1,x.2.2.2.2.2.2.2.2.1,x.2.2.2.2.2.2.2.2.2.1,()):Nat):Int)) - ((wL cE x.2.2.2.2.2.2.2.2.2.2.1:Nat):Int))=left - ((bU x:Nat):Int):=by omega
 rw [e]
theorem NL (x:((List UInt8)×Int×Int×Int×Int×(List dj)×Int×Int×(List R3)×(List R3)×(List dh)×Unit)) (h:bU x<=1048576):JL x=some ((),(x,())):=by have hw:bU x=x.1.length + wL bT x.2.2.2.2.2.1 + gI (x.2.2.2.2.2.2.1,x.2.2.2.2.2.2.2.1,x.2.2.2.2.2.2.2.2.1,x.2.2.2.2.2.2.2.2.2.1,()) + wL cE x.2.2.2.2.2.2.2.2.2.2.1:=rfl;unfold JL;rw [K3 x.2.2.2.2.2.1 (by omega)];rw [toRing (x.2.2.2.2.2.2.1,x.2.2.2.2.2.2.2.1,x.2.2.2.2.2.2.2.2.1,x.2.2.2.2.2.2.2.2.2.1,()) (by omega)];rw [L7 x.2.2.2.2.2.2.2.2.2.2.1 (by omega)];rfl
theorem P5 (x:((List UInt8)×Int×Int×Int×Int×(List dj)×Int×Int×(List R3)×(List R3)×(List dh)×Unit)) (h:bU x<=1099511627776):Li x x=some ((),((true,()),())):=by have hw:bU x=x.1.length + wL bT x.2.2.2.2.2.1 + gI (x.2.2.2.2.2.2.1,x.2.2.2.2.2.2.2.1,x.2.2.2.2.2.2.2.2.1,x.2.2.2.2.2.2.2.2.2.1,()) + wL cE x.2.2.2.2.2.2.2.2.2.2.1:=rfl;unfold Li;simp only [bq,eb,Bool.not_true,cond_false,Option.bind_some,beq_self_eq_true,LF x.2.2.2.2.2.1 (by omega),Oc (x.2.2.2.2.2.2.1,x.2.2.2.2.2.2.2.1,x.2.2.2.2.2.2.2.2.1,x.2.2.2.2.2.2.2.2.2.1,()) (by omega),JM x.2.2.2.2.2.2.2.2.2.2.1 (by omega)]
theorem yK (xs:List lX) (hb:xs.length<=aX/\∀ y∈xs,ua y) (a:Int) (h0:0<=a) (h1:a<=1048576):Mm xs a 0=some (if ((cL bU xs:Nat):Int)<=a then .inl (xs,a - (cL bU xs:Nat),(xs.length:Int),()) else .inr (-1,())):=by
 have h:=a6 (step:=fun (x:(List lX)×Int×Int×Unit)=>vq x.1 x.2.1 x.2.2.1) xs (fun i (a:Int)=>(xs,a,((i:Nat):Int),())) (fun _ x (a:Int)=>bif decide ((bU x:Int)<=a) then Sum.inl (a - bU x) else .inr (.inr (-1,())))
  (fun a=> .inl (xs,a,(xs.length:Int),())) (fun _ a=>0<=a/\a<=1048576) (a0:=a) ⟨h0,h1⟩ (fun i x a hx ha=>by
    have hmem:=List.mem_of_getElem? hx;have hlt:=ak hx;show vq xs a (i:Int)=_;unfold vq;rw [aG hx,aC hx,aV _ hx,Oj x a ha.1 ha.2 (hb.2 x hmem),aP (by omega)];dsimp only [cond_true,Option.bind_some];by_cases q:((bU x:Nat):Int)<=a
    . rw [bp q,az (by omega),decide_eq_true q]; rfl
    . rw [aU q,decide_eq_false q]; rfl) (fun i x a a' hx ha hf=>by
    by_cases q:((bU x:Nat):Int)<=a
    . rw [decide_eq_true q] at hf;simp only [cond_true,Sum.inl.injEq] at hf;omega
    . rw [decide_eq_false q] at hf;simp at hf) (fun a ha=>by
    show vq xs a (xs.length:Int)=_;unfold vq;rw [ax rfl]; rfl)
 rw [qV _ _ _ _ _ _ h0] at h;refine Eq.trans h ?_;split <;> rfl
theorem DF (xs:List lX) (left:Int) (h0:0<=left) (h1:left<=1048576) (hb:xs.length<=aX/\∀ y∈xs,ua y):Uh xs left=some ((),((BA left (wL bU xs),()),())):=by
 have hw:wL bU xs=xs.length + cL bU xs:=rfl;unfold Uh;dsimp only;rw [dt (s:=xs) (left:=left) (by omega) (by omega) hb.1];by_cases q:((xs.length:Nat):Int)<=left
 . rw [az (by omega)];dsimp only [cond_false];rw [yK xs hb _ (by omega) (by omega)];by_cases q2:((cL bU xs:Nat):Int)<=left - (xs.length:Int)
   . rw [if_pos q2,bp (by omega)];dsimp only [Option.bind_some,Sum.elim_inl];have e:left - (xs.length:Int) - (cL bU xs:Nat)=left - ((wL bU xs:Nat):Int):=by omega
     rw [e]
   . rw [if_neg q2,aU (by omega)]; rfl
 . rw [aF (by omega),aU (by omega)]; rfl
theorem KU (xs:List lX) (h:wL bU xs<=1048576):UE xs=some ((),((xs,()),())):=by
 have hb:aX=140737488355328:=rfl;have hw:wL bU xs=xs.length + cL bU xs:=rfl;unfold UE;dsimp only;rw [oq (by decide) (by omega),iV]
 have h:=a6 (step:=fun (x:(List lX)×(List dn)×Int×Unit)=>vu x.1 x.2.1 x.2.2.1) xs (fun i (a:List lX)=>(xs,a ++ List.replicate (xs.length - i) d92,((i:Nat):Int),())) (fun _ x (a:List lX)=>Sum.inl (a ++ [x]))
  (fun a=> .inl (xs,a,(xs.length:Int),())) (fun i a=>a.length=i) (a0:=[]) rfl (fun i x a hx ha=>by
    have hlt:=ak hx;have hcm:=iv bU hx;show vu xs (a ++ List.replicate (xs.length - i) d92) (i:Int)=_;unfold vu;obtain ⟨q,hq⟩:∃ q,xs.length - i=q + 1:=⟨xs.length - i - 1,by omega⟩;have hq':xs.length - (i + 1)=q:=by omega
    rw [hq,List.replicate_succ,aG hx,aC hx,aV _ hx,NL x (by omega)];dsimp only [cond_true,Option.bind_some];simp only [kY ha,vU _ ha,kP ha,aP (show i<=aX by omega),hq',cond_true,List.append_assoc,List.singleton_append]) (fun i x a a' hx ha hf=>by
    simp only [Sum.inl.injEq] at hf;rw [<- hf,List.length_append,ha]; rfl) (fun a ha=>by
    show vu xs (a ++ List.replicate (xs.length - xs.length) d92) (xs.length:Int)=_;unfold vu;rw [ax rfl,Nat.sub_self,List.replicate_zero,List.append_nil]; rfl)
 rw [jl] at h;have h':MA xs (List.replicate xs.length d92) 0=_:=h;rw [h']; rfl
theorem LZ (xs:List dn) (h:wL bU xs<=1099511627776):Uf xs xs=some ((),((true,()),())):=by
 have hb:aX=140737488355328:=rfl;have hw:wL bU xs=xs.length + cL bU xs:=rfl;unfold Uf;rw [bq];have h:=aD (step:=fun (x:(List dn)×(List dn)×Int×Unit)=>vo x.1 x.2.1 x.2.2.1) xs (fun i (_:Unit)=>(xs,xs,((i:Nat):Int),())) (fun _ x _=>Sum.inl ()) (fun _=> .inl (xs,xs,(xs.length:Int),())) (a0:=()) (fun i x a hx=>by
  have hlt:=ak hx;have hcm:=iv bU hx;show vo xs xs (i:Int)=_;unfold vo;rw [aG hx,aC hx,aV _ hx,P5 x (by omega),aP (by omega)]; rfl) (fun a=>by
  show vo xs xs (xs.length:Int)=_;unfold vo;rw [ax rfl]; rfl)
 rw [bC (fun _ a=>a)] at h;have h':Nq xs xs 0=_:=h;rw [h']; rfl
def aY (x:(Int×(List dn)×Unit)):Nat:=wL bU x.2.1
def lU (x:(Int×(List dn)×Unit)):Prop:=(x.2.1.length<=aX/\∀ y∈x.2.1,ua y)
def AF (x:(Int×(List dn)×Unit)):Prop:=(∀ y∈x.2.1,IB y)
theorem GY (x:(Int×(List dn)×Unit)) (left:Int) (h0:0<=left) (h1:left<=1048576) (hb:lU x):US x left=some ((),((BA left (aY x),()),())):=by
 have hw:aY x=wL bU x.2.1:=rfl;unfold US
 try dsimp only
 by_cases q0:((wL bU x.2.1:Nat):Int)<=left;rotate_left
 . rw [DF x.2.1 left (by omega) (by omega) (hb),aU q0,aU (by omega)]; rfl
 rw [DF x.2.1 left (by omega) (by omega) (hb),bp q0]; dsimp only [Option.bind_some]; rw [az (by omega)]; dsimp only [cond_false];rw [bp (by omega)];have e:(left - ((wL bU x.2.1:Nat):Int))=left - ((aY x:Nat):Int):=by omega
 rw [e]
theorem GB (x:(Int×(List dn)×Unit)) (h:aY x<=1048576):UH x=some ((),(x,())):=by have hw:aY x=wL bU x.2.1:=rfl;unfold UH;rw [KU x.2.1 (by omega)];rfl
theorem F6 (x:(Int×(List dn)×Unit)) (h:aY x<=1099511627776):UO x x=some ((),((true,()),())):=by have hw:aY x=wL bU x.2.1:=rfl;unfold UO;simp only [bq,eb,Bool.not_true,cond_false,Option.bind_some,beq_self_eq_true,LZ x.2.1 (by omega)]
def cz (x:((List R5)×Int×(List R3)×Int×Int×Int×Int×Int×(List R5)×Unit)):Nat:=x.1.length + x.2.2.1.length + x.2.2.2.2.2.2.2.2.1.length
def vg (x:((List R5)×Int×(List R3)×Int×Int×Int×Int×Int×(List R5)×Unit)):Prop:=x.1.length<=aX/\x.2.2.1.length<=aX/\x.2.2.2.2.2.2.2.2.1.length<=aX
def BC (x:((List R5)×Int×(List R3)×Int×Int×Int×Int×Int×(List R5)×Unit)):Prop:=(∀ y∈x.1,lJ .u8 y.1)/\(∀ y∈x.2.2.2.2.2.2.2.2.1,lJ .u8 y.1)
theorem Ok (x:((List R5)×Int×(List R3)×Int×Int×Int×Int×Int×(List R5)×Unit)) (left:Int) (h0:0<=left) (h1:left<=1048576) (hb:vg x):UQ x left=some ((),((BA left (cz x),()),())):=by
 have hw:cz x=x.1.length + x.2.2.1.length + x.2.2.2.2.2.2.2.2.1.length:=rfl;unfold UQ
 try dsimp only
 by_cases q0:((x.1.length:Nat):Int)<=left;rotate_left
 . rw [mR x.1 left (by omega) (by omega) (hb.1),aU q0,aU (by omega)]; rfl
 rw [mR x.1 left (by omega) (by omega) (hb.1),bp q0]; dsimp only [Option.bind_some]; rw [az (by omega)]; dsimp only [cond_false];by_cases q1:((x.2.2.1.length:Nat):Int)<=(left - ((x.1.length:Nat):Int));rotate_left
 . rw [qM x.2.2.1 (left - ((x.1.length:Nat):Int)) (by omega) (by omega) (hb.2.1),aU q1,aU (by omega)]; rfl
 rw [qM x.2.2.1 (left - ((x.1.length:Nat):Int)) (by omega) (by omega) (hb.2.1),bp q1]; dsimp only [Option.bind_some]; rw [az (by omega)]; dsimp only [cond_false];by_cases q2:((x.2.2.2.2.2.2.2.2.1.length:Nat):Int)<=((left - ((x.1.length:Nat):Int)) - ((x.2.2.1.length:Nat):Int));rotate_left
 . rw [mR x.2.2.2.2.2.2.2.2.1 ((left - ((x.1.length:Nat):Int)) - ((x.2.2.1.length:Nat):Int)) (by omega) (by omega) (hb.2.2),aU q2,aU (by omega)]; rfl
 rw [mR x.2.2.2.2.2.2.2.2.1 ((left - ((x.1.length:Nat):Int)) - ((x.2.2.1.length:Nat):Int)) (by omega) (by omega) (hb.2.2),bp q2]; dsimp only [Option.bind_some]; rw [az (by omega)]; dsimp only [cond_false];rw [bp (by omega)];have e:(((left - ((x.1.length:Nat):Int)) - ((x.2.2.1.length:Nat):Int)) - ((x.2.2.2.2.2.2.2.2.1.length:Nat):Int))=left - ((cz x:Nat):Int):=by omega
 rw [e]
theorem toTask (x:((List R5)×Int×(List R3)×Int×Int×Int×Int×Int×(List R5)×Unit)) (h:cz x<=1048576):UN x=some ((),(x,())):=by have hw:cz x=x.1.length + x.2.2.1.length + x.2.2.2.2.2.2.2.2.1.length:=rfl;unfold UN;rw [yx x.1 (by omega)];rw [CA x.2.2.1 (by omega)];rw [yx x.2.2.2.2.2.2.2.2.1 (by omega)];rfl
theorem Pd (x:((List R5)×Int×(List R3)×Int×Int×Int×Int×Int×(List R5)×Unit)) (h:cz x<=1099511627776):Uk x x=some ((),((true,()),())):=by have hw:cz x=x.1.length + x.2.2.1.length + x.2.2.2.2.2.2.2.2.1.length:=rfl;unfold Uk;simp only [bq,eb,Bool.not_true,cond_false,Option.bind_some,beq_self_eq_true,yC x.1 (by omega),Ce x.2.2.1 (by omega),yC x.2.2.2.2.2.2.2.2.1 (by omega)]
theorem uY (xs:List sH) (hb:xs.length<=aX/\∀ y∈xs,lU y) (a:Int) (h0:0<=a) (h1:a<=1048576):Md xs a 0=some (if ((cL aY xs:Nat):Int)<=a then .inl (xs,a - (cL aY xs:Nat),(xs.length:Int),()) else .inr (-1,())):=by
 have h:=a6 (step:=fun (x:(List sH)×Int×Int×Unit)=>uz x.1 x.2.1 x.2.2.1) xs (fun i (a:Int)=>(xs,a,((i:Nat):Int),())) (fun _ x (a:Int)=>bif decide ((aY x:Int)<=a) then Sum.inl (a - aY x) else .inr (.inr (-1,())))
  (fun a=> .inl (xs,a,(xs.length:Int),())) (fun _ a=>0<=a/\a<=1048576) (a0:=a) ⟨h0,h1⟩ (fun i x a hx ha=>by
    have hmem:=List.mem_of_getElem? hx;have hlt:=ak hx;show uz xs a (i:Int)=_;unfold uz;rw [aG hx,aC hx,aV _ hx,GY x a ha.1 ha.2 (hb.2 x hmem),aP (by omega)];dsimp only [cond_true,Option.bind_some];by_cases q:((aY x:Nat):Int)<=a
    . rw [bp q,az (by omega),decide_eq_true q]; rfl
    . rw [aU q,decide_eq_false q]; rfl) (fun i x a a' hx ha hf=>by
    by_cases q:((aY x:Nat):Int)<=a
    . rw [decide_eq_true q] at hf;simp only [cond_true,Sum.inl.injEq] at hf;omega
    . rw [decide_eq_false q] at hf;simp at hf) (fun a ha=>by
    show uz xs a (xs.length:Int)=_;unfold uz;rw [ax rfl]; rfl)
 rw [qV _ _ _ _ _ _ h0] at h;refine Eq.trans h ?_;split <;> rfl
theorem xt (xs:List sH) (left:Int) (h0:0<=left) (h1:left<=1048576) (hb:xs.length<=aX/\∀ y∈xs,lU y):UX xs left=some ((),((BA left (wL aY xs),()),())):=by
 have hw:wL aY xs=xs.length + cL aY xs:=rfl;unfold UX;dsimp only;rw [dt (s:=xs) (left:=left) (by omega) (by omega) hb.1];by_cases q:((xs.length:Nat):Int)<=left
 . rw [az (by omega)];dsimp only [cond_false];rw [uY xs hb _ (by omega) (by omega)];by_cases q2:((cL aY xs:Nat):Int)<=left - (xs.length:Int)
   . rw [if_pos q2,bp (by omega)];dsimp only [Option.bind_some,Sum.elim_inl];have e:left - (xs.length:Int) - (cL aY xs:Nat)=left - ((wL aY xs:Nat):Int):=by omega
     rw [e]
   . rw [if_neg q2,aU (by omega)]; rfl
 . rw [aF (by omega),aU (by omega)]; rfl
theorem EO (xs:List sH) (h:wL aY xs<=1048576):Ug xs=some ((),((xs,()),())):=by
 have hb:aX=140737488355328:=rfl;have hw:wL aY xs=xs.length + cL aY xs:=rfl;unfold Ug;dsimp only;rw [oq (by decide) (by omega),iV]
 have h:=a6 (step:=fun (x:(List sH)×(List gf)×Int×Unit)=>uF x.1 x.2.1 x.2.2.1) xs (fun i (a:List sH)=>(xs,a ++ List.replicate (xs.length - i) d67,((i:Nat):Int),())) (fun _ x (a:List sH)=>Sum.inl (a ++ [x]))
  (fun a=> .inl (xs,a,(xs.length:Int),())) (fun i a=>a.length=i) (a0:=[]) rfl (fun i x a hx ha=>by
    have hlt:=ak hx;have hcm:=iv aY hx;show uF xs (a ++ List.replicate (xs.length - i) d67) (i:Int)=_;unfold uF;obtain ⟨q,hq⟩:∃ q,xs.length - i=q + 1:=⟨xs.length - i - 1,by omega⟩;have hq':xs.length - (i + 1)=q:=by omega
    rw [hq,List.replicate_succ,aG hx,aC hx,aV _ hx,GB x (by omega)];dsimp only [cond_true,Option.bind_some];simp only [kY ha,vU _ ha,kP ha,aP (show i<=aX by omega),hq',cond_true,List.append_assoc,List.singleton_append]) (fun i x a a' hx ha hf=>by
    simp only [Sum.inl.injEq] at hf;rw [<- hf,List.length_append,ha]; rfl) (fun a ha=>by
    show uF xs (a ++ List.replicate (xs.length - xs.length) d67) (xs.length:Int)=_;unfold uF;rw [ax rfl,Nat.sub_self,List.replicate_zero,List.append_nil]; rfl)
 rw [jl] at h;have h':Mg xs (List.replicate xs.length d67) 0=_:=h;rw [h']; rfl
theorem FN (xs:List gf) (h:wL aY xs<=1099511627776):Uw xs xs=some ((),((true,()),())):=by
 have hb:aX=140737488355328:=rfl;have hw:wL aY xs=xs.length + cL aY xs:=rfl;unfold Uw;rw [bq];have h:=aD (step:=fun (x:(List gf)×(List gf)×Int×Unit)=>uC x.1 x.2.1 x.2.2.1) xs (fun i (_:Unit)=>(xs,xs,((i:Nat):Int),())) (fun _ x _=>Sum.inl ()) (fun _=> .inl (xs,xs,(xs.length:Int),())) (a0:=()) (fun i x a hx=>by
  have hlt:=ak hx;have hcm:=iv aY hx;show uC xs xs (i:Int)=_;unfold uC;rw [aG hx,aC hx,aV _ hx,F6 x (by omega),aP (by omega)]; rfl) (fun a=>by
  show uC xs xs (xs.length:Int)=_;unfold uC;rw [ax rfl]; rfl)
 rw [bC (fun _ a=>a)] at h;have h':M0 xs xs 0=_:=h;rw [h']; rfl
theorem zf (xs:List rn) (hb:xs.length<=aX/\∀ y∈xs,vg y) (a:Int) (h0:0<=a) (h1:a<=1048576):MW xs a 0=some (if ((cL cz xs:Nat):Int)<=a then .inl (xs,a - (cL cz xs:Nat),(xs.length:Int),()) else .inr (-1,())):=by
 have h:=a6 (step:=fun (x:(List rn)×Int×Int×Unit)=>vM x.1 x.2.1 x.2.2.1) xs (fun i (a:Int)=>(xs,a,((i:Nat):Int),())) (fun _ x (a:Int)=>bif decide ((cz x:Int)<=a) then Sum.inl (a - cz x) else .inr (.inr (-1,())))
  (fun a=> .inl (xs,a,(xs.length:Int),())) (fun _ a=>0<=a/\a<=1048576) (a0:=a) ⟨h0,h1⟩ (fun i x a hx ha=>by
    have hmem:=List.mem_of_getElem? hx;have hlt:=ak hx;show vM xs a (i:Int)=_;unfold vM;rw [aG hx,aC hx,aV _ hx,Ok x a ha.1 ha.2 (hb.2 x hmem),aP (by omega)];dsimp only [cond_true,Option.bind_some];by_cases q:((cz x:Nat):Int)<=a
    . rw [bp q,az (by omega),decide_eq_true q]; rfl
    . rw [aU q,decide_eq_false q]; rfl) (fun i x a a' hx ha hf=>by
    by_cases q:((cz x:Nat):Int)<=a
    . rw [decide_eq_true q] at hf;simp only [cond_true,Sum.inl.injEq] at hf;omega
    . rw [decide_eq_false q] at hf;simp at hf) (fun a ha=>by
    show vM xs a (xs.length:Int)=_;unfold vM;rw [ax rfl]; rfl)
 rw [qV _ _ _ _ _ _ h0] at h;refine Eq.trans h ?_;split <;> rfl
theorem DS (xs:List rn) (left:Int) (h0:0<=left) (h1:left<=1048576) (hb:xs.length<=aX/\∀ y∈xs,vg y):UA xs left=some ((),((BA left (wL cz xs),()),())):=by
 have hw:wL cz xs=xs.length + cL cz xs:=rfl;unfold UA;dsimp only;rw [dt (s:=xs) (left:=left) (by omega) (by omega) hb.1];by_cases q:((xs.length:Nat):Int)<=left
 . rw [az (by omega)];dsimp only [cond_false];rw [zf xs hb _ (by omega) (by omega)];by_cases q2:((cL cz xs:Nat):Int)<=left - (xs.length:Int)
   . rw [if_pos q2,bp (by omega)];dsimp only [Option.bind_some,Sum.elim_inl];have e:left - (xs.length:Int) - (cL cz xs:Nat)=left - ((wL cz xs:Nat):Int):=by omega
     rw [e]
   . rw [if_neg q2,aU (by omega)]; rfl
 . rw [aF (by omega),aU (by omega)]; rfl
theorem Kz (xs:List rn) (h:wL cz xs<=1048576):UI xs=some ((),((xs,()),())):=by
 have hb:aX=140737488355328:=rfl;have hw:wL cz xs=xs.length + cL cz xs:=rfl;unfold UI;dsimp only;rw [oq (by decide) (by omega),iV]
 have h:=a6 (step:=fun (x:(List rn)×(List jH)×Int×Unit)=>uq x.1 x.2.1 x.2.2.1) xs (fun i (a:List rn)=>(xs,a ++ List.replicate (xs.length - i) d64,((i:Nat):Int),())) (fun _ x (a:List rn)=>Sum.inl (a ++ [x]))
  (fun a=> .inl (xs,a,(xs.length:Int),())) (fun i a=>a.length=i) (a0:=[]) rfl (fun i x a hx ha=>by
    have hlt:=ak hx;have hcm:=iv cz hx;show uq xs (a ++ List.replicate (xs.length - i) d64) (i:Int)=_;unfold uq;obtain ⟨q,hq⟩:∃ q,xs.length - i=q + 1:=⟨xs.length - i - 1,by omega⟩;have hq':xs.length - (i + 1)=q:=by omega
    rw [hq,List.replicate_succ,aG hx,aC hx,aV _ hx,toTask x (by omega)];dsimp only [cond_true,Option.bind_some];simp only [kY ha,vU _ ha,kP ha,aP (show i<=aX by omega),hq',cond_true,List.append_assoc,List.singleton_append]) (fun i x a a' hx ha hf=>by
    simp only [Sum.inl.injEq] at hf;rw [<- hf,List.length_append,ha]; rfl) (fun a ha=>by
    show uq xs (a ++ List.replicate (xs.length - xs.length) d64) (xs.length:Int)=_;unfold uq;rw [ax rfl,Nat.sub_self,List.replicate_zero,List.append_nil]; rfl)
 rw [jl] at h;have h':Mx xs (List.replicate xs.length d64) 0=_:=h;rw [h']; rfl
theorem JJ (xs:List jH) (h:wL cz xs<=1099511627776):Us xs xs=some ((),((true,()),())):=by
 have hb:aX=140737488355328:=rfl;have hw:wL cz xs=xs.length + cL cz xs:=rfl;unfold Us;rw [bq];have h:=aD (step:=fun (x:(List jH)×(List jH)×Int×Unit)=>v8 x.1 x.2.1 x.2.2.1) xs (fun i (_:Unit)=>(xs,xs,((i:Nat):Int),())) (fun _ x _=>Sum.inl ()) (fun _=> .inl (xs,xs,(xs.length:Int),())) (a0:=()) (fun i x a hx=>by
  have hlt:=ak hx;have hcm:=iv cz hx;show v8 xs xs (i:Int)=_;unfold v8;rw [aG hx,aC hx,aV _ hx,Pd x (by omega),aP (by omega)]; rfl) (fun a=>by
  show v8 xs xs (xs.length:Int)=_;unfold v8;rw [ax rfl]; rfl)
 rw [bC (fun _ a=>a)] at h;have h':MC xs xs 0=_:=h;rw [h']; rfl
def ja (x:((List sH)×Int×Int×(List rn)×Unit)):Nat:=wL aY x.1 + wL cz x.2.2.2.1
def zk (x:((List sH)×Int×Int×(List rn)×Unit)):Prop:=(x.1.length<=aX/\∀ y∈x.1,lU y)/\(x.2.2.2.1.length<=aX/\∀ y∈x.2.2.2.1,vg y)
def zC (x:((List sH)×Int×Int×(List rn)×Unit)):Prop:=(∀ y∈x.1,AF y)/\(∀ y∈x.2.2.2.1,BC y)
theorem KS (x:((List sH)×Int×Int×(List rn)×Unit)) (left:Int) (h0:0<=left) (h1:left<=1048576) (hb:zk x):g8 x left=some ((),((BA left (ja x),()),())):=by
 have hw:ja x=wL aY x.1 + wL cz x.2.2.2.1:=rfl;unfold g8
 try dsimp only
 by_cases q0:((wL aY x.1:Nat):Int)<=left;rotate_left
 . rw [xt x.1 left (by omega) (by omega) (hb.1),aU q0,aU (by omega)]; rfl
 rw [xt x.1 left (by omega) (by omega) (hb.1),bp q0]; dsimp only [Option.bind_some]; rw [az (by omega)]; dsimp only [cond_false];by_cases q1:((wL cz x.2.2.2.1:Nat):Int)<=(left - ((wL aY x.1:Nat):Int));rotate_left
 . rw [DS x.2.2.2.1 (left - ((wL aY x.1:Nat):Int)) (by omega) (by omega) (hb.2),aU q1,aU (by omega)]; rfl
 rw [DS x.2.2.2.1 (left - ((wL aY x.1:Nat):Int)) (by omega) (by omega) (hb.2),bp q1]; dsimp only [Option.bind_some]; rw [az (by omega)]; dsimp only [cond_false];rw [bp (by omega)];have e:((left - ((wL aY x.1:Nat):Int)) - ((wL cz x.2.2.2.1:Nat):Int))=left - ((ja x:Nat):Int):=by omega
 rw [e]
theorem Ky (x:((List sH)×Int×Int×(List rn)×Unit)) (h:ja x<=1048576):g10 x=some ((),(x,())):=by have hw:ja x=wL aY x.1 + wL cz x.2.2.2.1:=rfl;unfold g10;rw [EO x.1 (by omega)];rw [Kz x.2.2.2.1 (by omega)];rfl
theorem Lf (x:((List sH)×Int×Int×(List rn)×Unit)) (h:ja x<=1099511627776):g12 x x=some ((),((true,()),())):=by have hw:ja x=wL aY x.1 + wL cz x.2.2.2.1:=rfl;unfold g12;simp only [bq,eb,Bool.not_true,cond_false,Option.bind_some,beq_self_eq_true,FN x.1 (by omega),JJ x.2.2.2.1 (by omega)]
end Go.Av
