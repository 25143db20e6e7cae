/- Part of a proof that the law FnExactWorldShow answers true for every input: the printed functions of this program and their plain laws. No conditions beyond the statement. -/
import Derived.Test.YtbgoaopannojjaaGreatDoorP1
import Derived.Test.YtbgoaopannojjaaGreatDoorFw4
set_option maxRecDepth 100000
set_option maxHeartbeats 4000000
namespace Go.Av
def bW (x:((List UInt8)×Int×Int×Unit)):Nat:=x.1.length
def vc (x:((List UInt8)×Int×Int×Unit)):Prop:=x.1.length<=aS
theorem Ro (x:((List UInt8)×Int×Int×Unit)) (left:Int) (h0:0<=left) (h1:left<=1048576) (hb:vc x):ND x left=some ((),((CF left (bW x),()),())):=by
 have hw:bW x=x.1.length:=rfl;unfold ND
 try dsimp only
 by_cases q0:((x.1.length:Nat):Int)<=left;rotate_left
 . rw [dv (s:=x.1) (left:=left) (by omega) (by omega) hb]; rw [aF (by omega),aY (by omega)]; rfl
 rw [dv (s:=x.1) (left:=left) (by omega) (by omega) hb]; rw [ay (by omega)]; dsimp only [cond_false];rw [bp (by omega)];have e:(left - ((x.1.length:Nat):Int))=left - ((bW x:Nat):Int):=by omega
 rw [e]
theorem SB (x:((List UInt8)×Int×Int×Unit)) (h:bW x<=1048576):Mp x=some ((),(x,())):=by have hw:bW x=x.1.length:=rfl;unfold Mp;rfl
theorem R4 (x:((List UInt8)×Int×Int×Unit)) (h:bW x<=1099511627776):MT x x=some ((),((true,()),())):=by have hw:bW x=x.1.length:=rfl;unfold MT;simp only [bu,dT,acY,aco,acE,beq_self_eq_true]
theorem rD (x:(List R3)) (left:Int) (h0:0<=left) (h1:left<=1048576) (hb:x.length<=aS):Gw x left=some ((),((CF left x.length,()),())):=by
 unfold Gw;dsimp only;by_cases q:((x.length:Nat):Int)<=left
 . rw [dv (s:=x) (left:=left) (by omega) (by omega) hb,ay (by omega),bp q]; rfl
 . rw [dv (s:=x) (left:=left) (by omega) (by omega) hb,aF (by omega),aY q]; rfl
theorem D8 (xs:List R3) (h:xs.length<=1048576):Gq xs=some ((),((xs,()),())):=by
 have hb:aS=140737488355328:=rfl;unfold Gq;dsimp only;rw [pv (by decide) (by omega),jw]
 have h:=aP (step:=fun (x:(List R3)×(List R3)×Int×Unit)=>pJ x.1 x.2.1 x.2.2.1) xs (fun i (a:List R3)=>(xs,a ++ List.replicate (xs.length - i) d3,((i:Nat):Int),())) (fun _ x (a:List R3)=>Sum.inl (a ++ [x]))
  (fun a=> .inl (xs,a,(xs.length:Int),())) (fun i a=>a.length=i) (a0:=[]) rfl (fun i x a hx ha=>by
    have hlt:=aj hx;show pJ xs (a ++ List.replicate (xs.length - i) d3) (i:Int)=_;unfold pJ;obtain ⟨q,hq⟩:∃ q,xs.length - i=q + 1:=⟨xs.length - i - 1,by omega⟩;have hq':xs.length - (i + 1)=q:=by omega
    rw [hq,adT,aC hx,ax hx,lJ ha,aR _ hx,jP ha,aL (by omega),hq'];dsimp only [cond_true];rw [acs]; rfl) (fun i x a a' hx ha hf=>by
    simp only [acJ] at hf;rw [<- hf,ab7,ha]; rfl) (fun a ha=>by
    show pJ xs (a ++ List.replicate (xs.length - xs.length) d3) (xs.length:Int)=_;unfold pJ;rw [aw rfl,adv,adU,acN]; rfl)
 rw [jh] at h;have h':HP xs (List.replicate xs.length d3) 0=_:=h;rw [h']; rfl
theorem DU (xs:List R3) (h:xs.length<=1099511627776):Ha xs xs=some ((),((true,()),())):=by
 have hb:aS=140737488355328:=rfl;unfold Ha;rw [bu];have h:=aD (step:=fun (x:(List R3)×(List R3)×Int×Unit)=>pF x.1 x.2.1 x.2.2.1) xs (fun i (_:Unit)=>(xs,xs,((i:Nat):Int),())) (fun _ x _=>Sum.inl ()) (fun _=> .inl (xs,xs,(xs.length:Int),())) (a0:=()) (fun i x a hx=>by
  have hlt:=aj hx;show pF xs xs (i:Int)=_;unfold pF;rw [aC hx,ax hx,aR _ hx,bu,aL (by omega)]; rfl) (fun a=>by
  show pF xs xs (xs.length:Int)=_;unfold pF;rw [aw rfl]; rfl)
 rw [bq (fun _ a=>a)] at h;have h':HM xs xs 0=_:=h;rw [h']; rfl
def gO (x:(Int×Int×(List R3)×(List R3)×Unit)):Nat:=x.2.2.1.length + x.2.2.2.1.length
def KB (x:(Int×Int×(List R3)×(List R3)×Unit)):Prop:=x.2.2.1.length<=aS/\x.2.2.2.1.length<=aS
theorem Jd (x:(Int×Int×(List R3)×(List R3)×Unit)) (left:Int) (h0:0<=left) (h1:left<=1048576) (hb:KB x):L5 x left=some ((),((CF left (gO x),()),())):=by
 have hw:gO x=x.2.2.1.length + x.2.2.2.1.length:=rfl;unfold L5
 try dsimp only
 by_cases q0:((x.2.2.1.length:Nat):Int)<=left;rotate_left
 . rw [rD x.2.2.1 left (by omega) (by omega) (hb.1),aY q0,aY (by omega)]; rfl
 rw [rD x.2.2.1 left (by omega) (by omega) (hb.1),bp q0]; dsimp only [Option.bind_some]; rw [ay (by omega)]; dsimp only [cond_false];by_cases q1:((x.2.2.2.1.length:Nat):Int)<=(left - ((x.2.2.1.length:Nat):Int));rotate_left
 . rw [rD x.2.2.2.1 (left - ((x.2.2.1.length:Nat):Int)) (by omega) (by omega) (hb.2),aY q1,aY (by omega)]; rfl
 rw [rD x.2.2.2.1 (left - ((x.2.2.1.length:Nat):Int)) (by omega) (by omega) (hb.2),bp q1]; dsimp only [Option.bind_some]; rw [ay (by omega)]; dsimp only [cond_false];rw [bp (by omega)];have e:((left - ((x.2.2.1.length:Nat):Int)) - ((x.2.2.2.1.length:Nat):Int))=left - ((gO x:Nat):Int):=by omega
 rw [e]
theorem toRing (x:(Int×Int×(List R3)×(List R3)×Unit)) (h:gO x<=1048576):LS x=some ((),(x,())):=by have hw:gO x=x.2.2.1.length + x.2.2.2.1.length:=rfl;unfold LS;rw [D8 x.2.2.1 (by omega)];rw [D8 x.2.2.2.1 (by omega)];rfl
theorem RK (x:(Int×Int×(List R3)×(List R3)×Unit)) (h:gO x<=1099511627776):MW x x=some ((),((true,()),())):=by have hw:gO x=x.2.2.1.length + x.2.2.2.1.length:=rfl;unfold MW;simp only [bu,dT,acY,aco,acE,beq_self_eq_true,DU x.2.2.1 (by omega),DU x.2.2.2.1 (by omega)]
theorem mZ (x:(List R5)) (left:Int) (h0:0<=left) (h1:left<=1048576) (hb:x.length<=aS):Gb x left=some ((),((CF left x.length,()),())):=by
 unfold Gb;dsimp only;by_cases q:((x.length:Nat):Int)<=left
 . rw [dv (s:=x) (left:=left) (by omega) (by omega) hb,ay (by omega),bp q]; rfl
 . rw [dv (s:=x) (left:=left) (by omega) (by omega) hb,aF (by omega),aY q]; rfl
theorem zP (xs:List R5) (h:xs.length<=1048576):g17 xs=some ((),((xs,()),())):=by
 have hb:aS=140737488355328:=rfl;unfold g17;dsimp only;rw [pv (by decide) (by omega),jw]
 have h:=aP (step:=fun (x:(List R5)×(List R5)×Int×Unit)=>wQ x.1 x.2.1 x.2.2.1) xs (fun i (a:List R5)=>(xs,a ++ List.replicate (xs.length - i) d5,((i:Nat):Int),())) (fun _ x (a:List R5)=>Sum.inl (a ++ [x]))
  (fun a=> .inl (xs,a,(xs.length:Int),())) (fun i a=>a.length=i) (a0:=[]) rfl (fun i x a hx ha=>by
    have hlt:=aj hx;show wQ xs (a ++ List.replicate (xs.length - i) d5) (i:Int)=_;unfold wQ;obtain ⟨q,hq⟩:∃ q,xs.length - i=q + 1:=⟨xs.length - i - 1,by omega⟩;have hq':xs.length - (i + 1)=q:=by omega
    rw [hq,adT,aC hx,ax hx,lJ ha,aR _ hx,jP ha,aL (by omega),hq'];dsimp only [cond_true];rw [acs]; rfl) (fun i x a a' hx ha hf=>by
    simp only [acJ] at hf;rw [<- hf,ab7,ha]; rfl) (fun a ha=>by
    show wQ xs (a ++ List.replicate (xs.length - xs.length) d5) (xs.length:Int)=_;unfold wQ;rw [aw rfl,adv,adU,acN]; rfl)
 rw [jh] at h;have h':Ph xs (List.replicate xs.length d5) 0=_:=h;rw [h']; rfl
theorem zk (xs:List R5) (h:xs.length<=1099511627776):g19 xs xs=some ((),((true,()),())):=by
 have hb:aS=140737488355328:=rfl;unfold g19;rw [bu];have h:=aD (step:=fun (x:(List R5)×(List R5)×Int×Unit)=>xD x.1 x.2.1 x.2.2.1) xs (fun i (_:Unit)=>(xs,xs,((i:Nat):Int),())) (fun _ x _=>Sum.inl ()) (fun _=> .inl (xs,xs,(xs.length:Int),())) (a0:=()) (fun i x a hx=>by
  have hlt:=aj hx;show xD xs xs (i:Int)=_;unfold xD;rw [aC hx,ax hx,aR _ hx,bu,aL (by omega)]; rfl) (fun a=>by
  show xD xs xs (xs.length:Int)=_;unfold xD;rw [aw rfl]; rfl)
 rw [bq (fun _ a=>a)] at h;have h':OV xs xs 0=_:=h;rw [h']; rfl
def cG (x:((List UInt8)×(List UInt8)×(List R5)×Unit)):Nat:=x.1.length + x.2.1.length + x.2.2.1.length
def xd (x:((List UInt8)×(List UInt8)×(List R5)×Unit)):Prop:=x.1.length<=aS/\x.2.1.length<=aS/\x.2.2.1.length<=aS
def I2 (x:((List UInt8)×(List UInt8)×(List R5)×Unit)):Prop:=(∀ y∈x.2.2.1,kZ .u8 y.1)
theorem Rm (x:((List UInt8)×(List UInt8)×(List R5)×Unit)) (left:Int) (h0:0<=left) (h1:left<=1048576) (hb:xd x):MR x left=some ((),((CF left (cG x),()),())):=by
 have hw:cG x=x.1.length + x.2.1.length + x.2.2.1.length:=rfl;unfold MR
 try dsimp only
 by_cases q0:((x.1.length:Nat):Int)<=left;rotate_left
 . rw [dv (s:=x.1) (left:=left) (by omega) (by omega) hb.1]; rw [aF (by omega),aY (by omega)]; rfl
 rw [dv (s:=x.1) (left:=left) (by omega) (by omega) hb.1]; rw [ay (by omega)]; dsimp only [cond_false];by_cases q1:((x.2.1.length:Nat):Int)<=(left - ((x.1.length:Nat):Int));rotate_left
 . rw [dv (s:=x.2.1) (left:=(left - ((x.1.length:Nat):Int))) (by omega) (by omega) hb.2.1]; rw [aF (by omega),aY (by omega)]; rfl
 rw [dv (s:=x.2.1) (left:=(left - ((x.1.length:Nat):Int))) (by omega) (by omega) hb.2.1]; rw [ay (by omega)]; dsimp only [cond_false];by_cases q2:((x.2.2.1.length:Nat):Int)<=((left - ((x.1.length:Nat):Int)) - ((x.2.1.length:Nat):Int));rotate_left
 . rw [mZ x.2.2.1 ((left - ((x.1.length:Nat):Int)) - ((x.2.1.length:Nat):Int)) (by omega) (by omega) (hb.2.2),aY q2,aY (by omega)]; rfl
 rw [mZ x.2.2.1 ((left - ((x.1.length:Nat):Int)) - ((x.2.1.length:Nat):Int)) (by omega) (by omega) (hb.2.2),bp q2]; dsimp only [Option.bind_some]; rw [ay (by omega)]; dsimp only [cond_false];rw [bp (by omega)];have e:(((left - ((x.1.length:Nat):Int)) - ((x.2.1.length:Nat):Int)) - ((x.2.2.1.length:Nat):Int))=left - ((cG x:Nat):Int):=by omega
 rw [e]
theorem Sa (x:((List UInt8)×(List UInt8)×(List R5)×Unit)) (h:cG x<=1048576):LI x=some ((),(x,())):=by have hw:cG x=x.1.length + x.2.1.length + x.2.2.1.length:=rfl;unfold LI;rw [zP x.2.2.1 (by omega)];rfl
theorem Sc (x:((List UInt8)×(List UInt8)×(List R5)×Unit)) (h:cG x<=1099511627776):MG x x=some ((),((true,()),())):=by have hw:cG x=x.1.length + x.2.1.length + x.2.2.1.length:=rfl;unfold MG;simp only [bu,dT,acY,aco,acE,beq_self_eq_true,zk x.2.2.1 (by omega)]
theorem zC (xs:List mj) (hb:xs.length<=aS/\∀ y∈xs,vc y) (a:Int) (h0:0<=a) (h1:a<=1048576):K1 xs a 0=some (if ((cL bW xs:Nat):Int)<=a then .inl (xs,a - (cL bW xs:Nat),(xs.length:Int),()) else .inr (-1,())):=by
 have h:=aP (step:=fun (x:(List mj)×Int×Int×Unit)=>pM x.1 x.2.1 x.2.2.1) xs (fun i (a:Int)=>(xs,a,((i:Nat):Int),())) (fun _ x (a:Int)=>bif decide ((bW x:Int)<=a) then Sum.inl (a - bW x) else .inr (.inr (-1,())))
  (fun a=> .inl (xs,a,(xs.length:Int),())) (fun _ a=>0<=a/\a<=1048576) (a0:=a) ⟨h0,h1⟩ (fun i x a hx ha=>by
    have hmem:=acg hx;have hlt:=aj hx;show pM xs a (i:Int)=_;unfold pM;rw [aC hx,ax hx,aR _ hx,Ro x a ha.1 ha.2 (hb.2 x hmem),aL (by omega)];dsimp only [cond_true,Option.bind_some];by_cases q:((bW x:Nat):Int)<=a
    . rw [bp q,ay (by omega),ace q]; rfl
    . rw [aY q,acD q]; rfl) (fun i x a a' hx ha hf=>by
    by_cases q:((bW x:Nat):Int)<=a
    . rw [ace q] at hf;simp only [ab9,acJ] at hf;omega
    . rw [acD q] at hf;simp at hf) (fun a ha=>by
    show pM xs a (xs.length:Int)=_;unfold pM;rw [aw rfl]; rfl)
 rw [rM _ _ _ _ _ _ h0] at h;refine adL h ?_;split <;> rfl
theorem EN (xs:List mj) (left:Int) (h0:0<=left) (h1:left<=1048576) (hb:xs.length<=aS/\∀ y∈xs,vc y):N3 xs left=some ((),((CF left (wL bW xs),()),())):=by
 have hw:wL bW xs=xs.length + cL bW xs:=rfl;unfold N3;dsimp only;rw [dv (s:=xs) (left:=left) (by omega) (by omega) hb.1];by_cases q:((xs.length:Nat):Int)<=left
 . rw [ay (by omega)];dsimp only [cond_false];rw [zC xs hb _ (by omega) (by omega)];by_cases q2:((cL bW xs:Nat):Int)<=left - (xs.length:Int)
   . rw [if_pos q2,bp (by omega)];dsimp only [Option.bind_some,Sum.elim_inl];have e:left - (xs.length:Int) - (cL bW xs:Nat)=left - ((wL bW xs:Nat):Int):=by omega
     rw [e]
   . rw [if_neg q2,aY (by omega)]; rfl
 . rw [aF (by omega),aY (by omega)]; rfl
theorem Ok (xs:List mj) (h:wL bW xs<=1048576):Oa xs=some ((),((xs,()),())):=by
 have hb:aS=140737488355328:=rfl;have hw:wL bW xs=xs.length + cL bW xs:=rfl;unfold Oa;dsimp only;rw [pv (by decide) (by omega),jw]
 have h:=aP (step:=fun (x:(List mj)×(List fA)×Int×Unit)=>pn x.1 x.2.1 x.2.2.1) xs (fun i (a:List mj)=>(xs,a ++ List.replicate (xs.length - i) d95,((i:Nat):Int),())) (fun _ x (a:List mj)=>Sum.inl (a ++ [x]))
  (fun a=> .inl (xs,a,(xs.length:Int),())) (fun i a=>a.length=i) (a0:=[]) rfl (fun i x a hx ha=>by
    have hlt:=aj hx;have hcm:=iz bW hx;show pn xs (a ++ List.replicate (xs.length - i) d95) (i:Int)=_;unfold pn;obtain ⟨q,hq⟩:∃ q,xs.length - i=q + 1:=⟨xs.length - i - 1,by omega⟩;have hq':xs.length - (i + 1)=q:=by omega
    rw [hq,adT,aC hx,ax hx,aR _ hx,SB x (by omega)];dsimp only [cond_true,Option.bind_some];simp only [lJ ha,sr _ ha,jP ha,aL (show i<=aS by omega),hq',ab9,acs,aed]) (fun i x a a' hx ha hf=>by
    simp only [acJ] at hf;rw [<- hf,ab7,ha]; rfl) (fun a ha=>by
    show pn xs (a ++ List.replicate (xs.length - xs.length) d95) (xs.length:Int)=_;unfold pn;rw [aw rfl,adv,adU,acN]; rfl)
 rw [jh] at h;have h':HQ xs (List.replicate xs.length d95) 0=_:=h;rw [h']; rfl
theorem No (xs:List fA) (h:wL bW xs<=1099511627776):N7 xs xs=some ((),((true,()),())):=by
 have hb:aS=140737488355328:=rfl;have hw:wL bW xs=xs.length + cL bW xs:=rfl;unfold N7;rw [bu];have h:=aD (step:=fun (x:(List fA)×(List fA)×Int×Unit)=>py x.1 x.2.1 x.2.2.1) xs (fun i (_:Unit)=>(xs,xs,((i:Nat):Int),())) (fun _ x _=>Sum.inl ()) (fun _=> .inl (xs,xs,(xs.length:Int),())) (a0:=()) (fun i x a hx=>by
  have hlt:=aj hx;have hcm:=iz bW hx;show py xs xs (i:Int)=_;unfold py;rw [aC hx,ax hx,aR _ hx,R4 x (by omega),aL (by omega)]; rfl) (fun a=>by
  show py xs xs (xs.length:Int)=_;unfold py;rw [aw rfl]; rfl)
 rw [bq (fun _ a=>a)] at h;have h':J7 xs xs 0=_:=h;rw [h']; rfl
theorem zd (xs:List ln) (hb:xs.length<=aS/\∀ y∈xs,xd y) (a:Int) (h0:0<=a) (h1:a<=1048576):Lv xs a 0=some (if ((cL cG xs:Nat):Int)<=a then .inl (xs,a - (cL cG xs:Nat),(xs.length:Int),()) else .inr (-1,())):=by
 have h:=aP (step:=fun (x:(List ln)×Int×Int×Unit)=>o8 x.1 x.2.1 x.2.2.1) xs (fun i (a:Int)=>(xs,a,((i:Nat):Int),())) (fun _ x (a:Int)=>bif decide ((cG x:Int)<=a) then Sum.inl (a - cG x) else .inr (.inr (-1,())))
  (fun a=> .inl (xs,a,(xs.length:Int),())) (fun _ a=>0<=a/\a<=1048576) (a0:=a) ⟨h0,h1⟩ (fun i x a hx ha=>by
    have hmem:=acg hx;have hlt:=aj hx;show o8 xs a (i:Int)=_;unfold o8;rw [aC hx,ax hx,aR _ hx,Rm x a ha.1 ha.2 (hb.2 x hmem),aL (by omega)];dsimp only [cond_true,Option.bind_some];by_cases q:((cG x:Nat):Int)<=a
    . rw [bp q,ay (by omega),ace q]; rfl
    . rw [aY q,acD q]; rfl) (fun i x a a' hx ha hf=>by
    by_cases q:((cG x:Nat):Int)<=a
    . rw [ace q] at hf;simp only [ab9,acJ] at hf;omega
    . rw [acD q] at hf;simp at hf) (fun a ha=>by
    show o8 xs a (xs.length:Int)=_;unfold o8;rw [aw rfl]; rfl)
 rw [rM _ _ _ _ _ _ h0] at h;refine adL h ?_;split <;> rfl
theorem EV (xs:List ln) (left:Int) (h0:0<=left) (h1:left<=1048576) (hb:xs.length<=aS/\∀ y∈xs,xd y):Ow xs left=some ((),((CF left (wL cG xs),()),())):=by
 have hw:wL cG xs=xs.length + cL cG xs:=rfl;unfold Ow;dsimp only;rw [dv (s:=xs) (left:=left) (by omega) (by omega) hb.1];by_cases q:((xs.length:Nat):Int)<=left
 . rw [ay (by omega)];dsimp only [cond_false];rw [zd xs hb _ (by omega) (by omega)];by_cases q2:((cL cG xs:Nat):Int)<=left - (xs.length:Int)
   . rw [if_pos q2,bp (by omega)];dsimp only [Option.bind_some,Sum.elim_inl];have e:left - (xs.length:Int) - (cL cG xs:Nat)=left - ((wL cG xs:Nat):Int):=by omega
     rw [e]
   . rw [if_neg q2,aY (by omega)]; rfl
 . rw [aF (by omega),aY (by omega)]; rfl
theorem NN (xs:List ln) (h:wL cG xs<=1048576):NR xs=some ((),((xs,()),())):=by
 have hb:aS=140737488355328:=rfl;have hw:wL cG xs=xs.length + cL cG xs:=rfl;unfold NR;dsimp only;rw [pv (by decide) (by omega),jw]
 have h:=aP (step:=fun (x:(List ln)×(List cV)×Int×Unit)=>od x.1 x.2.1 x.2.2.1) xs (fun i (a:List ln)=>(xs,a ++ List.replicate (xs.length - i) d166,((i:Nat):Int),())) (fun _ x (a:List ln)=>Sum.inl (a ++ [x]))
  (fun a=> .inl (xs,a,(xs.length:Int),())) (fun i a=>a.length=i) (a0:=[]) rfl (fun i x a hx ha=>by
    have hlt:=aj hx;have hcm:=iz cG hx;show od xs (a ++ List.replicate (xs.length - i) d166) (i:Int)=_;unfold od;obtain ⟨q,hq⟩:∃ q,xs.length - i=q + 1:=⟨xs.length - i - 1,by omega⟩;have hq':xs.length - (i + 1)=q:=by omega
    rw [hq,adT,aC hx,ax hx,aR _ hx,Sa x (by omega)];dsimp only [cond_true,Option.bind_some];simp only [lJ ha,sr _ ha,jP ha,aL (show i<=aS by omega),hq',ab9,acs,aed]) (fun i x a a' hx ha hf=>by
    simp only [acJ] at hf;rw [<- hf,ab7,ha]; rfl) (fun a ha=>by
    show od xs (a ++ List.replicate (xs.length - xs.length) d166) (xs.length:Int)=_;unfold od;rw [aw rfl,adv,adU,acN]; rfl)
 rw [jh] at h;have h':Kf xs (List.replicate xs.length d166) 0=_:=h;rw [h']; rfl
theorem NG (xs:List cV) (h:wL cG xs<=1099511627776):Mv xs xs=some ((),((true,()),())):=by
 have hb:aS=140737488355328:=rfl;have hw:wL cG xs=xs.length + cL cG xs:=rfl;unfold Mv;rw [bu];have h:=aD (step:=fun (x:(List cV)×(List cV)×Int×Unit)=>po x.1 x.2.1 x.2.2.1) xs (fun i (_:Unit)=>(xs,xs,((i:Nat):Int),())) (fun _ x _=>Sum.inl ()) (fun _=> .inl (xs,xs,(xs.length:Int),())) (a0:=()) (fun i x a hx=>by
  have hlt:=aj hx;have hcm:=iz cG hx;show po xs xs (i:Int)=_;unfold po;rw [aC hx,ax hx,aR _ hx,Sc x (by omega),aL (by omega)]; rfl) (fun a=>by
  show po xs xs (xs.length:Int)=_;unfold po;rw [aw rfl]; rfl)
 rw [bq (fun _ a=>a)] at h;have h':Le xs xs 0=_:=h;rw [h']; rfl
def bV (x:((List UInt8)×Int×Int×Int×Int×(List fA)×Int×Int×(List R3)×(List R3)×(List cV)×Unit)):Nat:=x.1.length + wL bW x.2.2.2.2.2.1 + gO (x.2.2.2.2.2.2.1,x.2.2.2.2.2.2.2.1,x.2.2.2.2.2.2.2.2.1,x.2.2.2.2.2.2.2.2.2.1,()) + wL cG x.2.2.2.2.2.2.2.2.2.2.1
def uD (x:((List UInt8)×Int×Int×Int×Int×(List fA)×Int×Int×(List R3)×(List R3)×(List cV)×Unit)):Prop:=x.1.length<=aS/\(x.2.2.2.2.2.1.length<=aS/\∀ y∈x.2.2.2.2.2.1,vc y)/\KB (x.2.2.2.2.2.2.1,x.2.2.2.2.2.2.2.1,x.2.2.2.2.2.2.2.2.1,x.2.2.2.2.2.2.2.2.2.1,())/\(x.2.2.2.2.2.2.2.2.2.2.1.length<=aS/\∀ y∈x.2.2.2.2.2.2.2.2.2.2.1,xd y)
def Lh (x:((List UInt8)×Int×Int×Int×Int×(List fA)×Int×Int×(List R3)×(List R3)×(List cV)×Unit)):Prop:=(∀ y∈x.2.2.2.2.2.2.2.2.2.2.1,I2 y)
theorem SX (x:((List UInt8)×Int×Int×Int×Int×(List fA)×Int×Int×(List R3)×(List R3)×(List cV)×Unit)) (left:Int) (h0:0<=left) (h1:left<=1048576) (hb:uD x):LR x left=some ((),((CF left (bV x),()),())):=by
 have hw:bV x=x.1.length + wL bW x.2.2.2.2.2.1 + gO (x.2.2.2.2.2.2.1,x.2.2.2.2.2.2.2.1,x.2.2.2.2.2.2.2.2.1,x.2.2.2.2.2.2.2.2.2.1,()) + wL cG x.2.2.2.2.2.2.2.2.2.2.1:=rfl;unfold LR
 try dsimp only
 by_cases q0:((x.1.length:Nat):Int)<=left;rotate_left
 . rw [dv (s:=x.1) (left:=left) (by omega) (by omega) hb.1]; rw [aF (by omega),aY (by omega)]; rfl
 rw [dv (s:=x.1) (left:=left) (by omega) (by omega) hb.1]; rw [ay (by omega)]; dsimp only [cond_false];by_cases q1:((wL bW x.2.2.2.2.2.1:Nat):Int)<=(left - ((x.1.length:Nat):Int));rotate_left
 . rw [EN x.2.2.2.2.2.1 (left - ((x.1.length:Nat):Int)) (by omega) (by omega) (hb.2.1),aY q1,aY (by omega)]; rfl
 rw [EN x.2.2.2.2.2.1 (left - ((x.1.length:Nat):Int)) (by omega) (by omega) (hb.2.1),bp q1]; dsimp only [Option.bind_some]; rw [ay (by omega)]; dsimp only [cond_false];by_cases q2:((gO (x.2.2.2.2.2.2.1,x.2.2.2.2.2.2.2.1,x.2.2.2.2.2.2.2.2.1,x.2.2.2.2.2.2.2.2.2.1,()):Nat):Int)<=((left - ((x.1.length:Nat):Int)) - ((wL bW x.2.2.2.2.2.1:Nat):Int));rotate_left
 . rw [Jd (x.2.2.2.2.2.2.1,x.2.2.2.2.2.2.2.1,x.2.2.2.2.2.2.2.2.1,x.2.2.2.2.2.2.2.2.2.1,()) ((left - ((x.1.length:Nat):Int)) - ((wL bW x.2.2.2.2.2.1:Nat):Int)) (by omega) (by omega) (hb.2.2.1),aY q2,aY (by omega)]; rfl
 rw [Jd (x.2.2.2.2.2.2.1,x.2.2.2.2.2.2.2.1,x.2.2.2.2.2.2.2.2.1,x.2.2.2.2.2.2.2.2.2.1,()) ((left - ((x.1.length:Nat):Int)) - ((wL bW x.2.2.2.2.2.1:Nat):Int)) (by omega) (by omega) (hb.2.2.1),bp q2]; dsimp only [Option.bind_some]; rw [ay (by omega)]; dsimp only [cond_false];by_cases q3:((wL cG x.2.2.2.2.2.2.2.2.2.2.1:Nat):Int)<=(((left - ((x.1.length:Nat):Int)) - ((wL bW x.2.2.2.2.2.1:Nat):Int)) - ((gO (x.2.2.2.2.2.2.1,x.2.2.2.2.2.2.2.1,x.2.2.2.2.2.2.2.2.1,x.2.2.2.2.2.2.2.2.2.1,()):Nat):Int));rotate_left
 . rw [EV x.2.2.2.2.2.2.2.2.2.2.1 (((left - ((x.1.length:Nat):Int)) - ((wL bW x.2.2.2.2.2.1:Nat):Int)) - ((gO (x.2.2.2.2.2.2.1,x.2.2.2.2.2.2.2.1,x.2.2.2.2.2.2.2.2.1,x.2.2.2.2.2.2.2.2.2.1,()):Nat):Int)) (by omega) (by omega) (hb.2.2.2),aY q3,aY (by omega)]; rfl
 rw [EV x.2.2.2.2.2.2.2.2.2.2.1 (((left - ((x.1.length:Nat):Int)) - ((wL bW x.2.2.2.2.2.1:Nat):Int)) - ((gO (x.2.2.2.2.2.2.1,x.2.2.2.2.2.2.2.1,x.2.2.2.2.2.2.2.2.1,x.2.2.2.2.2.2.2.2.2.1,()):Nat):Int)) (by omega) (by omega) (hb.2.2.2),bp q3]; dsimp only [Option.bind_some]; rw [ay (by omega)]; dsimp only [cond_false];rw [bp (by omega)];have e:((((left - ((x.1.length:Nat):Int)) - ((wL bW x.2.2.2.2.2.1:Nat):Int)) - ((gO (x.2.2.2.2.2.2.1,x.2.2.2.2.2.2.2.1,x.2.2.2.2.2.2.2.2.1,x.2.2.2.2.2.2.2.2.2.1,()):Nat):Int)) - ((wL cG x.2.2.2.2.2.2.2.2.2.2.1:Nat):Int))=left - ((bV x:Nat):Int):=by omega
 rw [e]
theorem Sz (x:((List UInt8)×Int×Int×Int×Int×(List fA)×Int×Int×(List R3)×(List R3)×(List cV)×Unit)) (h:bV x<=1048576):Od x=some ((),(x,())):=by have hw:bV x=x.1.length + wL bW x.2.2.2.2.2.1 + gO (x.2.2.2.2.2.2.1,x.2.2.2.2.2.2.2.1,x.2.2.2.2.2.2.2.2.1,x.2.2.2.2.2.2.2.2.2.1,()) + wL cG x.2.2.2.2.2.2.2.2.2.2.1:=rfl;unfold Od;rw [Ok x.2.2.2.2.2.1 (by omega)];rw [toRing (x.2.2.2.2.2.2.1,x.2.2.2.2.2.2.2.1,x.2.2.2.2.2.2.2.2.1,x.2.2.2.2.2.2.2.2.2.1,()) (by omega)];rw [NN x.2.2.2.2.2.2.2.2.2.2.1 (by omega)];rfl
theorem QZ (x:((List UInt8)×Int×Int×Int×Int×(List fA)×Int×Int×(List R3)×(List R3)×(List cV)×Unit)) (h:bV x<=1099511627776):Mo x x=some ((),((true,()),())):=by have hw:bV x=x.1.length + wL bW x.2.2.2.2.2.1 + gO (x.2.2.2.2.2.2.1,x.2.2.2.2.2.2.2.1,x.2.2.2.2.2.2.2.2.1,x.2.2.2.2.2.2.2.2.2.1,()) + wL cG x.2.2.2.2.2.2.2.2.2.2.1:=rfl;unfold Mo;simp only [bu,dT,acY,aco,acE,beq_self_eq_true,No x.2.2.2.2.2.1 (by omega),RK (x.2.2.2.2.2.2.1,x.2.2.2.2.2.2.2.1,x.2.2.2.2.2.2.2.2.1,x.2.2.2.2.2.2.2.2.2.1,()) (by omega),NG x.2.2.2.2.2.2.2.2.2.2.1 (by omega)]
theorem zK (xs:List iF) (hb:xs.length<=aS/\∀ y∈xs,uD y) (a:Int) (h0:0<=a) (h1:a<=1048576):I4 xs a 0=some (if ((cL bV xs:Nat):Int)<=a then .inl (xs,a - (cL bV xs:Nat),(xs.length:Int),()) else .inr (-1,())):=by
 have h:=aP (step:=fun (x:(List iF)×Int×Int×Unit)=>pE x.1 x.2.1 x.2.2.1) xs (fun i (a:Int)=>(xs,a,((i:Nat):Int),())) (fun _ x (a:Int)=>bif decide ((bV x:Int)<=a) then Sum.inl (a - bV x) else .inr (.inr (-1,())))
  (fun a=> .inl (xs,a,(xs.length:Int),())) (fun _ a=>0<=a/\a<=1048576) (a0:=a) ⟨h0,h1⟩ (fun i x a hx ha=>by
    have hmem:=acg hx;have hlt:=aj hx;show pE xs a (i:Int)=_;unfold pE;rw [aC hx,ax hx,aR _ hx,SX x a ha.1 ha.2 (hb.2 x hmem),aL (by omega)];dsimp only [cond_true,Option.bind_some];by_cases q:((bV x:Nat):Int)<=a
    . rw [bp q,ay (by omega),ace q]; rfl
    . rw [aY q,acD q]; rfl) (fun i x a a' hx ha hf=>by
    by_cases q:((bV x:Nat):Int)<=a
    . rw [ace q] at hf;simp only [ab9,acJ] at hf;omega
    . rw [acD q] at hf;simp at hf) (fun a ha=>by
    show pE xs a (xs.length:Int)=_;unfold pE;rw [aw rfl]; rfl)
 rw [rM _ _ _ _ _ _ h0] at h;refine adL h ?_;split <;> rfl
theorem Ek (xs:List iF) (left:Int) (h0:0<=left) (h1:left<=1048576) (hb:xs.length<=aS/\∀ y∈xs,uD y):MJ xs left=some ((),((CF left (wL bV xs),()),())):=by
 have hw:wL bV xs=xs.length + cL bV xs:=rfl;unfold MJ;dsimp only;rw [dv (s:=xs) (left:=left) (by omega) (by omega) hb.1];by_cases q:((xs.length:Nat):Int)<=left
 . rw [ay (by omega)];dsimp only [cond_false];rw [zK xs hb _ (by omega) (by omega)];by_cases q2:((cL bV xs:Nat):Int)<=left - (xs.length:Int)
   . rw [if_pos q2,bp (by omega)];dsimp only [Option.bind_some,Sum.elim_inl];have e:left - (xs.length:Int) - (cL bV xs:Nat)=left - ((wL bV xs:Nat):Int):=by omega
     rw [e]
   . rw [if_neg q2,aY (by omega)]; rfl
 . rw [aF (by omega),aY (by omega)]; rfl
theorem NI (xs:List iF) (h:wL bV xs<=1048576):Mf xs=some ((),((xs,()),())):=by
 have hb:aS=140737488355328:=rfl;have hw:wL bV xs=xs.length + cL bV xs:=rfl;unfold Mf;dsimp only;rw [pv (by decide) (by omega),jw]
 have h:=aP (step:=fun (x:(List iF)×(List dC)×Int×Unit)=>oW x.1 x.2.1 x.2.2.1) xs (fun i (a:List iF)=>(xs,a ++ List.replicate (xs.length - i) d59,((i:Nat):Int),())) (fun _ x (a:List iF)=>Sum.inl (a ++ [x]))
  (fun a=> .inl (xs,a,(xs.length:Int),())) (fun i a=>a.length=i) (a0:=[]) rfl (fun i x a hx ha=>by
    have hlt:=aj hx;have hcm:=iz bV hx;show oW xs (a ++ List.replicate (xs.length - i) d59) (i:Int)=_;unfold oW;obtain ⟨q,hq⟩:∃ q,xs.length - i=q + 1:=⟨xs.length - i - 1,by omega⟩;have hq':xs.length - (i + 1)=q:=by omega
    rw [hq,adT,aC hx,ax hx,aR _ hx,Sz x (by omega)];dsimp only [cond_true,Option.bind_some];simp only [lJ ha,sr _ ha,jP ha,aL (show i<=aS by omega),hq',ab9,acs,aed]) (fun i x a a' hx ha hf=>by
    simp only [acJ] at hf;rw [<- hf,ab7,ha]; rfl) (fun a ha=>by
    show oW xs (a ++ List.replicate (xs.length - xs.length) d59) (xs.length:Int)=_;unfold oW;rw [aw rfl,adv,adU,acN]; rfl)
 rw [jh] at h;have h':HO xs (List.replicate xs.length d59) 0=_:=h;rw [h']; rfl
theorem LY (xs:List dC) (h:wL bV xs<=1099511627776):Mr xs xs=some ((),((true,()),())):=by
 have hb:aS=140737488355328:=rfl;have hw:wL bV xs=xs.length + cL bV xs:=rfl;unfold Mr;rw [bu];have h:=aD (step:=fun (x:(List dC)×(List dC)×Int×Unit)=>oY x.1 x.2.1 x.2.2.1) xs (fun i (_:Unit)=>(xs,xs,((i:Nat):Int),())) (fun _ x _=>Sum.inl ()) (fun _=> .inl (xs,xs,(xs.length:Int),())) (a0:=()) (fun i x a hx=>by
  have hlt:=aj hx;have hcm:=iz bV hx;show oY xs xs (i:Int)=_;unfold oY;rw [aC hx,ax hx,aR _ hx,QZ x (by omega),aL (by omega)]; rfl) (fun a=>by
  show oY xs xs (xs.length:Int)=_;unfold oY;rw [aw rfl]; rfl)
 rw [bq (fun _ a=>a)] at h;have h':Jf xs xs 0=_:=h;rw [h']; rfl
def a6 (x:(Int×(List iF)×Unit)):Nat:=wL bV x.2.1
def me (x:(Int×(List iF)×Unit)):Prop:=(x.2.1.length<=aS/\∀ y∈x.2.1,uD y)
def Cn (x:(Int×(List iF)×Unit)):Prop:=(∀ y∈x.2.1,Lh y)
theorem KS (x:(Int×(List iF)×Unit)) (left:Int) (h0:0<=left) (h1:left<=1048576) (hb:me x):XW x left=some ((),((CF left (a6 x),()),())):=by
 have hw:a6 x=wL bV x.2.1:=rfl;unfold XW
 try dsimp only
 by_cases q0:((wL bV x.2.1:Nat):Int)<=left;rotate_left
 . rw [Ek x.2.1 left (by omega) (by omega) (hb),aY q0,aY (by omega)]; rfl
 rw [Ek x.2.1 left (by omega) (by omega) (hb),bp q0]; dsimp only [Option.bind_some]; rw [ay (by omega)]; dsimp only [cond_false];rw [bp (by omega)];have e:(left - ((wL bV x.2.1:Nat):Int))=left - ((a6 x:Nat):Int):=by omega
 rw [e]
theorem IM (x:(Int×(List iF)×Unit)) (h:a6 x<=1048576):XP x=some ((),(x,())):=by have hw:a6 x=wL bV x.2.1:=rfl;unfold XP;rw [NI x.2.1 (by omega)];rfl
theorem JI (x:(Int×(List iF)×Unit)) (h:a6 x<=1099511627776):Yc x x=some ((),((true,()),())):=by have hw:a6 x=wL bV x.2.1:=rfl;unfold Yc;simp only [bu,dT,acY,aco,acE,beq_self_eq_true,LY x.2.1 (by omega)]
def cD (x:((List R5)×Int×(List R3)×Int×Int×Int×Int×Int×(List R5)×Unit)):Nat:=x.1.length + x.2.2.1.length + x.2.2.2.2.2.2.2.2.1.length
def vf (x:((List R5)×Int×(List R3)×Int×Int×Int×Int×Int×(List R5)×Unit)):Prop:=x.1.length<=aS/\x.2.2.1.length<=aS/\x.2.2.2.2.2.2.2.2.1.length<=aS
def Dk (x:((List R5)×Int×(List R3)×Int×Int×Int×Int×Int×(List R5)×Unit)):Prop:=(∀ y∈x.1,kZ .u8 y.1)/\(∀ y∈x.2.2.2.2.2.2.2.2.1,kZ .u8 y.1)
theorem Tb (x:((List R5)×Int×(List R3)×Int×Int×Int×Int×Int×(List R5)×Unit)) (left:Int) (h0:0<=left) (h1:left<=1048576) (hb:vf x):XT x left=some ((),((CF left (cD x),()),())):=by
 have hw:cD x=x.1.length + x.2.2.1.length + x.2.2.2.2.2.2.2.2.1.length:=rfl;unfold XT
 try dsimp only
 by_cases q0:((x.1.length:Nat):Int)<=left;rotate_left
 . rw [mZ x.1 left (by omega) (by omega) (hb.1),aY q0,aY (by omega)]; rfl
 rw [mZ x.1 left (by omega) (by omega) (hb.1),bp q0]; dsimp only [Option.bind_some]; rw [ay (by omega)]; dsimp only [cond_false];by_cases q1:((x.2.2.1.length:Nat):Int)<=(left - ((x.1.length:Nat):Int));rotate_left
 . rw [rD x.2.2.1 (left - ((x.1.length:Nat):Int)) (by omega) (by omega) (hb.2.1),aY q1,aY (by omega)]; rfl
 rw [rD x.2.2.1 (left - ((x.1.length:Nat):Int)) (by omega) (by omega) (hb.2.1),bp q1]; dsimp only [Option.bind_some]; rw [ay (by omega)]; dsimp only [cond_false];by_cases q2:((x.2.2.2.2.2.2.2.2.1.length:Nat):Int)<=((left - ((x.1.length:Nat):Int)) - ((x.2.2.1.length:Nat):Int));rotate_left
 . rw [mZ x.2.2.2.2.2.2.2.2.1 ((left - ((x.1.length:Nat):Int)) - ((x.2.2.1.length:Nat):Int)) (by omega) (by omega) (hb.2.2),aY q2,aY (by omega)]; rfl
 rw [mZ x.2.2.2.2.2.2.2.2.1 ((left - ((x.1.length:Nat):Int)) - ((x.2.2.1.length:Nat):Int)) (by omega) (by omega) (hb.2.2),bp q2]; dsimp only [Option.bind_some]; rw [ay (by omega)]; dsimp only [cond_false];rw [bp (by omega)];have e:(((left - ((x.1.length:Nat):Int)) - ((x.2.2.1.length:Nat):Int)) - ((x.2.2.2.2.2.2.2.2.1.length:Nat):Int))=left - ((cD x:Nat):Int):=by omega
 rw [e]
theorem toTask (x:((List R5)×Int×(List R3)×Int×Int×Int×Int×Int×(List R5)×Unit)) (h:cD x<=1048576):XJ x=some ((),(x,())):=by have hw:cD x=x.1.length + x.2.2.1.length + x.2.2.2.2.2.2.2.2.1.length:=rfl;unfold XJ;rw [zP x.1 (by omega)];rw [D8 x.2.2.1 (by omega)];rw [zP x.2.2.2.2.2.2.2.2.1 (by omega)];rfl
theorem S6 (x:((List R5)×Int×(List R3)×Int×Int×Int×Int×Int×(List R5)×Unit)) (h:cD x<=1099511627776):XN x x=some ((),((true,()),())):=by have hw:cD x=x.1.length + x.2.2.1.length + x.2.2.2.2.2.2.2.2.1.length:=rfl;unfold XN;simp only [bu,dT,acY,aco,acE,beq_self_eq_true,zk x.1 (by omega),DU x.2.2.1 (by omega),zk x.2.2.2.2.2.2.2.2.1 (by omega)]
theorem xt (xs:List tW) (hb:xs.length<=aS/\∀ y∈xs,me y) (a:Int) (h0:0<=a) (h1:a<=1048576):O5 xs a 0=some (if ((cL a6 xs:Nat):Int)<=a then .inl (xs,a - (cL a6 xs:Nat),(xs.length:Int),()) else .inr (-1,())):=by
 have h:=aP (step:=fun (x:(List tW)×Int×Int×Unit)=>wT x.1 x.2.1 x.2.2.1) xs (fun i (a:Int)=>(xs,a,((i:Nat):Int),())) (fun _ x (a:Int)=>bif decide ((a6 x:Int)<=a) then Sum.inl (a - a6 x) else .inr (.inr (-1,())))
  (fun a=> .inl (xs,a,(xs.length:Int),())) (fun _ a=>0<=a/\a<=1048576) (a0:=a) ⟨h0,h1⟩ (fun i x a hx ha=>by
    have hmem:=acg hx;have hlt:=aj hx;show wT xs a (i:Int)=_;unfold wT;rw [aC hx,ax hx,aR _ hx,KS x a ha.1 ha.2 (hb.2 x hmem),aL (by omega)];dsimp only [cond_true,Option.bind_some];by_cases q:((a6 x:Nat):Int)<=a
    . rw [bp q,ay (by omega),ace q]; rfl
    . rw [aY q,acD q]; rfl) (fun i x a a' hx ha hf=>by
    by_cases q:((a6 x:Nat):Int)<=a
    . rw [ace q] at hf;simp only [ab9,acJ] at hf;omega
    . rw [acD q] at hf;simp at hf) (fun a ha=>by
    show wT xs a (xs.length:Int)=_;unfold wT;rw [aw rfl]; rfl)
 rw [rM _ _ _ _ _ _ h0] at h;refine adL h ?_;split <;> rfl
theorem yq (xs:List tW) (left:Int) (h0:0<=left) (h1:left<=1048576) (hb:xs.length<=aS/\∀ y∈xs,me y):g23 xs left=some ((),((CF left (wL a6 xs),()),())):=by
 have hw:wL a6 xs=xs.length + cL a6 xs:=rfl;unfold g23;dsimp only;rw [dv (s:=xs) (left:=left) (by omega) (by omega) hb.1];by_cases q:((xs.length:Nat):Int)<=left
 . rw [ay (by omega)];dsimp only [cond_false];rw [xt xs hb _ (by omega) (by omega)];by_cases q2:((cL a6 xs:Nat):Int)<=left - (xs.length:Int)
   . rw [if_pos q2,bp (by omega)];dsimp only [Option.bind_some,Sum.elim_inl];have e:left - (xs.length:Int) - (cL a6 xs:Nat)=left - ((wL a6 xs:Nat):Int):=by omega
     rw [e]
   . rw [if_neg q2,aY (by omega)]; rfl
 . rw [aF (by omega),aY (by omega)]; rfl
theorem Hq (xs:List tW) (h:wL a6 xs<=1048576):Yb xs=some ((),((xs,()),())):=by
 have hb:aS=140737488355328:=rfl;have hw:wL a6 xs=xs.length + cL a6 xs:=rfl;unfold Yb;dsimp only;rw [pv (by decide) (by omega),jw]
 have h:=aP (step:=fun (x:(List tW)×(List fV)×Int×Unit)=>uC x.1 x.2.1 x.2.2.1) xs (fun i (a:List tW)=>(xs,a ++ List.replicate (xs.length - i) d89,((i:Nat):Int),())) (fun _ x (a:List tW)=>Sum.inl (a ++ [x]))
  (fun a=> .inl (xs,a,(xs.length:Int),())) (fun i a=>a.length=i) (a0:=[]) rfl (fun i x a hx ha=>by
    have hlt:=aj hx;have hcm:=iz a6 hx;show uC xs (a ++ List.replicate (xs.length - i) d89) (i:Int)=_;unfold uC;obtain ⟨q,hq⟩:∃ q,xs.length - i=q + 1:=⟨xs.length - i - 1,by omega⟩;have hq':xs.length - (i + 1)=q:=by omega
    rw [hq,adT,aC hx,ax hx,aR _ hx,IM x (by omega)];dsimp only [cond_true,Option.bind_some];simp only [lJ ha,sr _ ha,jP ha,aL (show i<=aS by omega),hq',ab9,acs,aed]) (fun i x a a' hx ha hf=>by
    simp only [acJ] at hf;rw [<- hf,ab7,ha]; rfl) (fun a ha=>by
    show uC xs (a ++ List.replicate (xs.length - xs.length) d89) (xs.length:Int)=_;unfold uC;rw [aw rfl,adv,adU,acN]; rfl)
 rw [jh] at h;have h':Pe xs (List.replicate xs.length d89) 0=_:=h;rw [h']; rfl
theorem Hz (xs:List fV) (h:wL a6 xs<=1099511627776):XL xs xs=some ((),((true,()),())):=by
 have hb:aS=140737488355328:=rfl;have hw:wL a6 xs=xs.length + cL a6 xs:=rfl;unfold XL;rw [bu];have h:=aD (step:=fun (x:(List fV)×(List fV)×Int×Unit)=>wC x.1 x.2.1 x.2.2.1) xs (fun i (_:Unit)=>(xs,xs,((i:Nat):Int),())) (fun _ x _=>Sum.inl ()) (fun _=> .inl (xs,xs,(xs.length:Int),())) (a0:=()) (fun i x a hx=>by
  have hlt:=aj hx;have hcm:=iz a6 hx;show wC xs xs (i:Int)=_;unfold wC;rw [aC hx,ax hx,aR _ hx,JI x (by omega),aL (by omega)]; rfl) (fun a=>by
  show wC xs xs (xs.length:Int)=_;unfold wC;rw [aw rfl]; rfl)
 rw [bq (fun _ a=>a)] at h;have h':P7 xs xs 0=_:=h;rw [h']; rfl
theorem zx (xs:List rG) (hb:xs.length<=aS/\∀ y∈xs,vf y) (a:Int) (h0:0<=a) (h1:a<=1048576):Pm xs a 0=some (if ((cL cD xs:Nat):Int)<=a then .inl (xs,a - (cL cD xs:Nat),(xs.length:Int),()) else .inr (-1,())):=by
 have h:=aP (step:=fun (x:(List rG)×Int×Int×Unit)=>xC x.1 x.2.1 x.2.2.1) xs (fun i (a:Int)=>(xs,a,((i:Nat):Int),())) (fun _ x (a:Int)=>bif decide ((cD x:Int)<=a) then Sum.inl (a - cD x) else .inr (.inr (-1,())))
  (fun a=> .inl (xs,a,(xs.length:Int),())) (fun _ a=>0<=a/\a<=1048576) (a0:=a) ⟨h0,h1⟩ (fun i x a hx ha=>by
    have hmem:=acg hx;have hlt:=aj hx;show xC xs a (i:Int)=_;unfold xC;rw [aC hx,ax hx,aR _ hx,Tb x a ha.1 ha.2 (hb.2 x hmem),aL (by omega)];dsimp only [cond_true,Option.bind_some];by_cases q:((cD x:Nat):Int)<=a
    . rw [bp q,ay (by omega),ace q]; rfl
    . rw [aY q,acD q]; rfl) (fun i x a a' hx ha hf=>by
    by_cases q:((cD x:Nat):Int)<=a
    . rw [ace q] at hf;simp only [ab9,acJ] at hf;omega
    . rw [acD q] at hf;simp at hf) (fun a ha=>by
    show xC xs a (xs.length:Int)=_;unfold xC;rw [aw rfl]; rfl)
 rw [rM _ _ _ _ _ _ h0] at h;refine adL h ?_;split <;> rfl
theorem ET (xs:List rG) (left:Int) (h0:0<=left) (h1:left<=1048576) (hb:xs.length<=aS/\∀ y∈xs,vf y):g24 xs left=some ((),((CF left (wL cD xs),()),())):=by
 have hw:wL cD xs=xs.length + cL cD xs:=rfl;unfold g24;dsimp only;rw [dv (s:=xs) (left:=left) (by omega) (by omega) hb.1];by_cases q:((xs.length:Nat):Int)<=left
 . rw [ay (by omega)];dsimp only [cond_false];rw [zx xs hb _ (by omega) (by omega)];by_cases q2:((cL cD xs:Nat):Int)<=left - (xs.length:Int)
   . rw [if_pos q2,bp (by omega)];dsimp only [Option.bind_some,Sum.elim_inl];have e:left - (xs.length:Int) - (cL cD xs:Nat)=left - ((wL cD xs:Nat):Int):=by omega
     rw [e]
   . rw [if_neg q2,aY (by omega)]; rfl
 . rw [aF (by omega),aY (by omega)]; rfl
theorem LW (xs:List rG) (h:wL cD xs<=1048576):X9 xs=some ((),((xs,()),())):=by
 have hb:aS=140737488355328:=rfl;have hw:wL cD xs=xs.length + cL cD xs:=rfl;unfold X9;dsimp only;rw [pv (by decide) (by omega),jw]
 have h:=aP (step:=fun (x:(List rG)×(List jl)×Int×Unit)=>vE x.1 x.2.1 x.2.2.1) xs (fun i (a:List rG)=>(xs,a ++ List.replicate (xs.length - i) d62,((i:Nat):Int),())) (fun _ x (a:List rG)=>Sum.inl (a ++ [x]))
  (fun a=> .inl (xs,a,(xs.length:Int),())) (fun i a=>a.length=i) (a0:=[]) rfl (fun i x a hx ha=>by
    have hlt:=aj hx;have hcm:=iz cD hx;show vE xs (a ++ List.replicate (xs.length - i) d62) (i:Int)=_;unfold vE;obtain ⟨q,hq⟩:∃ q,xs.length - i=q + 1:=⟨xs.length - i - 1,by omega⟩;have hq':xs.length - (i + 1)=q:=by omega
    rw [hq,adT,aC hx,ax hx,aR _ hx,toTask x (by omega)];dsimp only [cond_true,Option.bind_some];simp only [lJ ha,sr _ ha,jP ha,aL (show i<=aS by omega),hq',ab9,acs,aed]) (fun i x a a' hx ha hf=>by
    simp only [acJ] at hf;rw [<- hf,ab7,ha]; rfl) (fun a ha=>by
    show vE xs (a ++ List.replicate (xs.length - xs.length) d62) (xs.length:Int)=_;unfold vE;rw [aw rfl,adv,adU,acN]; rfl)
 rw [jh] at h;have h':OZ xs (List.replicate xs.length d62) 0=_:=h;rw [h']; rfl
theorem Mg (xs:List jl) (h:wL cD xs<=1099511627776):X0 xs xs=some ((),((true,()),())):=by
 have hb:aS=140737488355328:=rfl;have hw:wL cD xs=xs.length + cL cD xs:=rfl;unfold X0;rw [bu];have h:=aD (step:=fun (x:(List jl)×(List jl)×Int×Unit)=>xl x.1 x.2.1 x.2.2.1) xs (fun i (_:Unit)=>(xs,xs,((i:Nat):Int),())) (fun _ x _=>Sum.inl ()) (fun _=> .inl (xs,xs,(xs.length:Int),())) (a0:=()) (fun i x a hx=>by
  have hlt:=aj hx;have hcm:=iz cD hx;show xl xs xs (i:Int)=_;unfold xl;rw [aC hx,ax hx,aR _ hx,S6 x (by omega),aL (by omega)]; rfl) (fun a=>by
  show xl xs xs (xs.length:Int)=_;unfold xl;rw [aw rfl]; rfl)
 rw [bq (fun _ a=>a)] at h;have h':Qf xs xs 0=_:=h;rw [h']; rfl
def jD (x:((List tW)×Int×Int×(List rG)×Unit)):Nat:=wL a6 x.1 + wL cD x.2.2.2.1
def zr (x:((List tW)×Int×Int×(List rG)×Unit)):Prop:=(x.1.length<=aS/\∀ y∈x.1,me y)/\(x.2.2.2.1.length<=aS/\∀ y∈x.2.2.2.1,vf y)
def yZ (x:((List tW)×Int×Int×(List rG)×Unit)):Prop:=(∀ y∈x.1,Cn y)/\(∀ y∈x.2.2.2.1,Dk y)
theorem Oz (x:((List tW)×Int×Int×(List rG)×Unit)) (left:Int) (h0:0<=left) (h1:left<=1048576) (hb:zr x):g7 x left=some ((),((CF left (jD x),()),())):=by
 have hw:jD x=wL a6 x.1 + wL cD x.2.2.2.1:=rfl;unfold g7
 try dsimp only
 by_cases q0:((wL a6 x.1:Nat):Int)<=left;rotate_left
 . rw [yq x.1 left (by omega) (by omega) (hb.1),aY q0,aY (by omega)]; rfl
 rw [yq x.1 left (by omega) (by omega) (hb.1),bp q0]; dsimp only [Option.bind_some]; rw [ay (by omega)]; dsimp only [cond_false];by_cases q1:((wL cD x.2.2.2.1:Nat):Int)<=(left - ((wL a6 x.1:Nat):Int));rotate_left
 . rw [ET x.2.2.2.1 (left - ((wL a6 x.1:Nat):Int)) (by omega) (by omega) (hb.2),aY q1,aY (by omega)]; rfl
 rw [ET x.2.2.2.1 (left - ((wL a6 x.1:Nat):Int)) (by omega) (by omega) (hb.2),bp q1]; dsimp only [Option.bind_some]; rw [ay (by omega)]; dsimp only [cond_false];rw [bp (by omega)];have e:((left - ((wL a6 x.1:Nat):Int)) - ((wL cD x.2.2.2.1:Nat):Int))=left - ((jD x:Nat):Int):=by omega
 rw [e]
theorem Of (x:((List tW)×Int×Int×(List rG)×Unit)) (h:jD x<=1048576):g9 x=some ((),(x,())):=by have hw:jD x=wL a6 x.1 + wL cD x.2.2.2.1:=rfl;unfold g9;rw [Hq x.1 (by omega)];rw [LW x.2.2.2.1 (by omega)];rfl
theorem LJ (x:((List tW)×Int×Int×(List rG)×Unit)) (h:jD x<=1099511627776):g11 x x=some ((),((true,()),())):=by have hw:jD x=wL a6 x.1 + wL cD x.2.2.2.1:=rfl;unfold g11;simp only [bu,dT,acY,aco,acE,beq_self_eq_true,Hz x.1 (by omega),Mg x.2.2.2.1 (by omega)]
end Go.Av
