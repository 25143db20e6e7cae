/- Part of a proof that the law FnExactWaitChain answers true for every input: the printed functions of this program and their plain laws. No conditions beyond the statement. -/
import Derived.Test.YtpgkhfcgbjangaaGreatDoorP1
import Derived.Test.YtpgkhfcgbjangaaGreatDoorFw4
set_option maxRecDepth 100000
set_option maxHeartbeats 4000000
namespace Go.Av
theorem Ge:∀ (n:Nat) (t:Int) (s:List UInt8),0<=t->t < 10 ^ n->n<=18->s.length + n<=1000->∃ t' s',H6 t s=some (.inl (t',s',()))/\s'.length<=s.length + n:=by
 intro n;have hbig:aV=140737488355328:=rfl;induction n with
 | zero =>
   intro t s h0 h1 h3 h2;refine ⟨t,s,?_,by omega⟩;have:t=0:=by simp at h1; omega
   subst this;exact aF _ (by show mR 0 s=_; unfold mR; rfl)
 | succ n ih =>
   intro t s h0 h1 h3 h2;by_cases ht:0 < t
   . have hp:t < 10 ^ n * 10:=by rw [Int.pow_succ] at h1; exact h1
     have hle:(10:Int) ^ n<=10 ^ 18:=by
      have hn:n<=18:=by omega
      exact_mod_cast (Nat.pow_le_pow_right (by decide) hn:10 ^ n<=10 ^ 18)
     have hle':(10:Int) ^ n<=1000000000000000000:=hle;have hq:l6 .i64 t 10=t / 10:=by unfold l6;rw [Int.tdiv_eq_ediv_of_nonneg h0];exact IntWalk.i64_in _ (by omega)
     have hc:(strOf [((bG .u8 (ak .i64 48 (fI t 10))),())]).length=1:=rfl;have hc2:(N4 (strOf [((bG .u8 (ak .i64 48 (fI t 10))),())]) s).length=1 + s.length:=by rw [<- hc]; exact List.length_append
     obtain ⟨t',s',e1,e2⟩:=ih (t / 10) (N4 (strOf [((bG .u8 (ak .i64 48 (fI t 10))),())]) s) (by omega) (by omega) (by omega) (by omega);refine ⟨t',s',aP _ (x':=(t / 10,N4 (strOf [((bG .u8 (ak .i64 48 (fI t 10))),())]) s,())) ?_ e1,by omega⟩;show mR t s=_;unfold mR;have hf:Gi (strOf [((bG .u8 (ak .i64 48 (fI t 10))),())]) s=true:=Nat.ble_eq_true_of_le (by omega);dsimp only;rw [aD ht,hq,hf];rfl
   . refine ⟨t,s,?_,by omega⟩;exact aF _ (by show mR t s=_; unfold mR; rw [ay ht]; rfl)
noncomputable def mt (k:Int):List UInt8:=match zl k with | some y=>y.2.1.1 | none=>[]
theorem text {k:Int} (h1:1<=k) (h2:k<=99999999999999999):zl k=some ((),((mt k,()),())):=by
 have hbig:aV=140737488355328:=rfl;obtain ⟨t',s',e1,e2⟩:=Ge 17 k [] (by omega) (by omega) (by decide) (by simp);have hr:zl k=some ((),((N4 [109] s',()),())):=by unfold zl;have hf:Gi [109] s'=true:=Nat.ble_eq_true_of_le (by simp at e2 ⊢; omega);have hle:bD k 0=false:=decide_eq_false (by omega);rw [hle,e1];dsimp only [cond_false,Option.bind_some,Sum.elim_inl];rw [hf]; rfl
 have hm:mt k=N4 [109] s':=by unfold mt; rw [hr]
 rw [hm]; exact hr
def bE (x:((List UInt8)×Int×Int×Unit)):Nat:=x.1.length
def wD (x:((List UInt8)×Int×Int×Unit)):Prop:=x.1.length<=aV
theorem Pt (x:((List UInt8)×Int×Int×Unit)) (left:Int) (h0:0<=left) (h1:left<=1048576) (hb:wD x):M6 x left=some ((),((Cm left (bE x),()),())):=by
 have hw:bE x=x.1.length:=rfl;unfold M6
 try dsimp only
 by_cases q0:((x.1.length:Nat):Int)<=left;rotate_left
 . rw [dG (s:=x.1) (left:=left) (by omega) (by omega) hb]; rw [aD (by omega),a8 (by omega)]; rfl
 rw [dG (s:=x.1) (left:=left) (by omega) (by omega) hb]; rw [ay (by omega)]; dsimp only [cond_false];rw [bu (by omega)];have e:(left - ((x.1.length:Nat):Int))=left - ((bE x:Nat):Int):=by omega
 rw [e]
theorem PL (x:((List UInt8)×Int×Int×Unit)) (h:bE x<=1048576):Lm x=some ((),(x,())):=by have hw:bE x=x.1.length:=rfl;unfold Lm;rfl
theorem PM (x:((List UInt8)×Int×Int×Unit)) (h:bE x<=1099511627776):Mn x x=some ((),((true,()),())):=by have hw:bE x=x.1.length:=rfl;unfold Mn;simp only [bq,ep,Bool.not_true,cond_false,Option.bind_some,beq_self_eq_true]
def cC (x:((List UInt8)×Int×Int×Unit)):Nat:=1 + 1 + 1
noncomputable def uc (x:((List UInt8)×Int×Int×Unit)) (k:Int):((List UInt8)×Int×Int×Unit):=(mt k,(k + 1),((k + 1) + 1),())
theorem EX (x:((List UInt8)×Int×Int×Unit)):cC x<=100 * (bE x + 1):=by
 have hw:bE x=x.1.length:=rfl;have hc:cC x=1 + 1 + 1:=rfl
 try dsimp only at *
 omega
theorem rX (x:(List R3)) (left:Int) (h0:0<=left) (h1:left<=1048576) (hb:x.length<=aV):RD x left=some ((),((Cm left x.length,()),())):=by
 unfold RD;dsimp only;by_cases q:((x.length:Nat):Int)<=left
 . rw [dG (s:=x) (left:=left) (by omega) (by omega) hb,ay (by omega),bu q]; rfl
 . rw [dG (s:=x) (left:=left) (by omega) (by omega) hb,aD (by omega),a8 q]; rfl
theorem Cw (xs:List R3) (h:xs.length<=1048576):RG xs=some ((),((xs,()),())):=by
 have hb:aV=140737488355328:=rfl;unfold RG;dsimp only;rw [nY (by decide) (by omega),jo]
 have h:=aT (step:=fun (x:(List R3)×(List R3)×Int×Unit)=>uK x.1 x.2.1 x.2.2.1) xs (fun i (a:List R3)=>(xs,a ++ List.replicate (xs.length - i) d3,((i:Nat):Int),())) (fun _ x (a:List R3)=>Sum.inl (a ++ [x]))
  (fun a=> .inl (xs,a,(xs.length:Int),())) (fun i a=>a.length=i) (a0:=[]) rfl (fun i x a hx ha=>by
    have hlt:=aj hx;show uK xs (a ++ List.replicate (xs.length - i) d3) (i:Int)=_;unfold uK;obtain ⟨q,hq⟩:∃ q,xs.length - i=q + 1:=⟨xs.length - i - 1,by omega⟩;have hq':xs.length - (i + 1)=q:=by omega
    rw [hq,List.replicate_succ,aI hx,aC hx,eF ha,aW _ hx,eH ha,aO (by omega),hq'];dsimp only [cond_true];rw [List.append_assoc]; rfl) (fun i x a a' hx ha hf=>by
    simp only [Sum.inl.injEq] at hf;rw [<- hf,List.length_append,ha]; rfl) (fun a ha=>by
    show uK xs (a ++ List.replicate (xs.length - xs.length) d3) (xs.length:Int)=_;unfold uK;rw [ax rfl,Nat.sub_self,List.replicate_zero,List.append_nil]; rfl)
 rw [jI] at h;have h':NY xs (List.replicate xs.length d3) 0=_:=h;rw [h']; rfl
theorem zY (xs:List R3) (h:xs.length<=1099511627776):g24 xs xs=some ((),((true,()),())):=by
 have hb:aV=140737488355328:=rfl;unfold g24;rw [bq];have h:=aG (step:=fun (x:(List R3)×(List R3)×Int×Unit)=>vS x.1 x.2.1 x.2.2.1) xs (fun i (_:Unit)=>(xs,xs,((i:Nat):Int),())) (fun _ x _=>Sum.inl ()) (fun _=> .inl (xs,xs,(xs.length:Int),())) (a0:=()) (fun i x a hx=>by
  have hlt:=aj hx;show vS xs xs (i:Int)=_;unfold vS;rw [aI hx,aC hx,aW _ hx,bq,aO (by omega)]; rfl) (fun a=>by
  show vS xs xs (xs.length:Int)=_;unfold vS;rw [ax rfl]; rfl)
 rw [bV (fun _ a=>a)] at h;have h':Nq xs xs 0=_:=h;rw [h']; rfl
def mkInt (x:Int×Unit) (k:Int):Int×Unit:=(k,())
theorem qP (xs:List R3) (k:Int) (h1:1<=k) (h2:k + ((cL (fun _=>1) xs:Nat):Int)<=1099511627776):Ql xs k=some (((nM mkInt (fun _=>1) xs k,()),()),((k + ((cL (fun _=>1) xs:Nat):Int),()),())):=by
 have hb:aV=140737488355328:=rfl;have hlen:xs.length<=1099511627776:=by rw [jy] at h2; omega
 unfold Ql
 have h:=aT (step:=fun (x:(List R3)×Int×Int×Unit)=>vH x.1 x.2.1 x.2.2.1) xs (fun i (a:List R3×Int)=>(a.1 ++ xs.drop i,a.2,((i:Nat):Int),())) (fun _ x (a:List R3×Int)=>Sum.inl (a.1 ++ [mkInt x a.2],a.2 + ((1:Nat):Int)))
  (fun a=> .inl (a.1,a.2,(xs.length:Int),())) (fun i a=>a.1.length=i/\1<=a.2/\a.2 + ((cL (fun _=>1) (xs.drop i):Nat):Int)<=1099511627776) (a0:=([],k)) ⟨rfl,h1,h2⟩ (fun i x a hx ha=>by
    have hlt:=aj hx;obtain ⟨hd,ha1,ha2⟩:=ha;rw [ed _ hx] at ha2;have a1:ak .i64 a.2 1=a.2 + 1:=aL (by omega) (by omega);show vH (a.1 ++ xs.drop i) a.2 (i:Int)=_;unfold vH;rw [iw hx,lI hd,eF hd,eH hd,aO (by omega),a1];dsimp only [cond_true];rw [List.append_assoc]; rfl) (fun i x a a' hx ha hf=>by
    obtain ⟨hd,ha1,ha2⟩:=ha;rw [ed _ hx] at ha2;simp only [Sum.inl.injEq] at hf;subst hf;refine ⟨by rw [List.length_append,hd]; rfl,?_,?_⟩
    . show 1<=a.2 + ((1:Nat):Int); omega
    . show a.2 + ((1:Nat):Int) + _<=_; omega) (fun a ha=>by
    show vH (a.1 ++ xs.drop xs.length) a.2 (xs.length:Int)=_;unfold vH;rw [List.drop_length,List.append_nil,ax ha.1]; rfl)
 rw [mM mkInt (fun _=>1)] at h;have h':Ns xs k 0=_:=h;rw [h']; rfl
theorem HV (xs:List R3) (k:Int) (h1:1<=k) (h2:k + ((cL (fun _=>1) xs:Nat):Int)<=1099511627776):VP (nM mkInt (fun _=>1) xs k) k=some ((),((k + ((cL (fun _=>1) xs:Nat):Int),()),())):=by
 have hb:aV=140737488355328:=rfl;have hlen:xs.length<=1099511627776:=by rw [jy] at h2; omega
 unfold VP
 have h:=aT (step:=fun (x:(List R3)×Int×Int×Unit)=>vg x.1 x.2.1 x.2.2.1) xs (fun i (a:Int)=>(nM mkInt (fun _=>1) xs k,a,((i:Nat):Int),())) (fun _ x (a:Int)=>Sum.inl (a + ((1:Nat):Int)))
  (fun a=> .inl (nM mkInt (fun _=>1) xs k,a,(xs.length:Int),())) (fun i a=>a=k + ((cL (fun _=>1) (xs.take i):Nat):Int)) (a0:=k) (by simp [cL]) (fun i x a hx ha=>by
    have hlt:=aj hx;have hs:=G5 (fun _=>1) xs i;have hy:=Bl mkInt (fun _=>1) xs k i x hx;rw [ed _ hx] at hs;rw [<- ha] at hy;have a1:ak .i64 a 1=a + 1:=aL (by omega) (by omega);show vg (nM mkInt (fun _=>1) xs k) a (i:Int)=_;unfold vg;rw [aI hy,aC hy,aW _ hy,aO (by omega),a1];simp only [mkInt,bq,Bool.not_true,cond_true,cond_false]; rfl) (fun i x a a' hx ha hf=>by
    simp only [Sum.inl.injEq] at hf;rw [Ly _ hx];omega) (fun a ha=>by
    show vg (nM mkInt (fun _=>1) xs k) a (xs.length:Int)=_;unfold vg;rw [ax (DQ _ _ _ _)]; rfl)
 rw [EW (fun _=>1)] at h;have h':ON (nM mkInt (fun _=>1) xs k) k 0=_:=h;rw [h']; rfl
def fL (x:(Int×Int×(List R3)×(List R3)×Unit)):Nat:=x.2.2.1.length + x.2.2.2.1.length
def Kb (x:(Int×Int×(List R3)×(List R3)×Unit)):Prop:=x.2.2.1.length<=aV/\x.2.2.2.1.length<=aV
theorem JF (x:(Int×Int×(List R3)×(List R3)×Unit)) (left:Int) (h0:0<=left) (h1:left<=1048576) (hb:Kb x):KL x left=some ((),((Cm left (fL x),()),())):=by
 have hw:fL x=x.2.2.1.length + x.2.2.2.1.length:=rfl;unfold KL
 try dsimp only
 by_cases q0:((x.2.2.1.length:Nat):Int)<=left;rotate_left
 . rw [rX x.2.2.1 left (by omega) (by omega) (hb.1),a8 q0,a8 (by omega)]; rfl
 rw [rX x.2.2.1 left (by omega) (by omega) (hb.1),bu q0]; dsimp only [Option.bind_some]; rw [ay (by omega)]; dsimp only [cond_false];by_cases q1:((x.2.2.2.1.length:Nat):Int)<=(left - ((x.2.2.1.length:Nat):Int));rotate_left
 . rw [rX x.2.2.2.1 (left - ((x.2.2.1.length:Nat):Int)) (by omega) (by omega) (hb.2),a8 q1,a8 (by omega)]; rfl
 rw [rX x.2.2.2.1 (left - ((x.2.2.1.length:Nat):Int)) (by omega) (by omega) (hb.2),bu q1]; dsimp only [Option.bind_some]; rw [ay (by omega)]; dsimp only [cond_false];rw [bu (by omega)];have e:((left - ((x.2.2.1.length:Nat):Int)) - ((x.2.2.2.1.length:Nat):Int))=left - ((fL x:Nat):Int):=by omega
 rw [e]
theorem toRing (x:(Int×Int×(List R3)×(List R3)×Unit)) (h:fL x<=1048576):KQ x=some ((),(x,())):=by have hw:fL x=x.2.2.1.length + x.2.2.2.1.length:=rfl;unfold KQ;rw [Cw x.2.2.1 (by omega)];rw [Cw x.2.2.2.1 (by omega)];rfl
theorem Rj (x:(Int×Int×(List R3)×(List R3)×Unit)) (h:fL x<=1099511627776):Lf x x=some ((),((true,()),())):=by have hw:fL x=x.2.2.1.length + x.2.2.2.1.length:=rfl;unfold Lf;simp only [bq,ep,Bool.not_true,cond_false,Option.bind_some,beq_self_eq_true,zY x.2.2.1 (by omega),zY x.2.2.2.1 (by omega)]
theorem ni (x:(List R5)) (left:Int) (h0:0<=left) (h1:left<=1048576) (hb:x.length<=aV):RB x left=some ((),((Cm left x.length,()),())):=by
 unfold RB;dsimp only;by_cases q:((x.length:Nat):Int)<=left
 . rw [dG (s:=x) (left:=left) (by omega) (by omega) hb,ay (by omega),bu q]; rfl
 . rw [dG (s:=x) (left:=left) (by omega) (by omega) hb,aD (by omega),a8 q]; rfl
theorem Af (xs:List R5) (h:xs.length<=1048576):RA xs=some ((),((xs,()),())):=by
 have hb:aV=140737488355328:=rfl;unfold RA;dsimp only;rw [nY (by decide) (by omega),jo]
 have h:=aT (step:=fun (x:(List R5)×(List R5)×Int×Unit)=>wX x.1 x.2.1 x.2.2.1) xs (fun i (a:List R5)=>(xs,a ++ List.replicate (xs.length - i) d5,((i:Nat):Int),())) (fun _ x (a:List R5)=>Sum.inl (a ++ [x]))
  (fun a=> .inl (xs,a,(xs.length:Int),())) (fun i a=>a.length=i) (a0:=[]) rfl (fun i x a hx ha=>by
    have hlt:=aj hx;show wX xs (a ++ List.replicate (xs.length - i) d5) (i:Int)=_;unfold wX;obtain ⟨q,hq⟩:∃ q,xs.length - i=q + 1:=⟨xs.length - i - 1,by omega⟩;have hq':xs.length - (i + 1)=q:=by omega
    rw [hq,List.replicate_succ,aI hx,aC hx,eF ha,aW _ hx,eH ha,aO (by omega),hq'];dsimp only [cond_true];rw [List.append_assoc]; rfl) (fun i x a a' hx ha hf=>by
    simp only [Sum.inl.injEq] at hf;rw [<- hf,List.length_append,ha]; rfl) (fun a ha=>by
    show wX xs (a ++ List.replicate (xs.length - xs.length) d5) (xs.length:Int)=_;unfold wX;rw [ax rfl,Nat.sub_self,List.replicate_zero,List.append_nil]; rfl)
 rw [jI] at h;have h':OD xs (List.replicate xs.length d5) 0=_:=h;rw [h']; rfl
theorem Ab (xs:List R5) (h:xs.length<=1099511627776):Rz xs xs=some ((),((true,()),())):=by
 have hb:aV=140737488355328:=rfl;unfold Rz;rw [bq];have h:=aG (step:=fun (x:(List R5)×(List R5)×Int×Unit)=>uP x.1 x.2.1 x.2.2.1) xs (fun i (_:Unit)=>(xs,xs,((i:Nat):Int),())) (fun _ x _=>Sum.inl ()) (fun _=> .inl (xs,xs,(xs.length:Int),())) (a0:=()) (fun i x a hx=>by
  have hlt:=aj hx;show uP xs xs (i:Int)=_;unfold uP;rw [aI hx,aC hx,aW _ hx,bq,aO (by omega)]; rfl) (fun a=>by
  show uP xs xs (xs.length:Int)=_;unfold uP;rw [ax rfl]; rfl)
 rw [bV (fun _ a=>a)] at h;have h':Nn xs xs 0=_:=h;rw [h']; rfl
def rH (x:Int×Unit) (k:Int):Int×Unit:=(bG .u8 k,())
theorem rW (xs:List R5) (k:Int) (h1:1<=k) (h2:k + ((cL (fun _=>1) xs:Nat):Int)<=1099511627776):RE xs k=some (((nM rH (fun _=>1) xs k,()),()),((k + ((cL (fun _=>1) xs:Nat):Int),()),())):=by
 have hb:aV=140737488355328:=rfl;have hlen:xs.length<=1099511627776:=by rw [jy] at h2; omega
 unfold RE
 have h:=aT (step:=fun (x:(List R5)×Int×Int×Unit)=>vw x.1 x.2.1 x.2.2.1) xs (fun i (a:List R5×Int)=>(a.1 ++ xs.drop i,a.2,((i:Nat):Int),())) (fun _ x (a:List R5×Int)=>Sum.inl (a.1 ++ [rH x a.2],a.2 + ((1:Nat):Int)))
  (fun a=> .inl (a.1,a.2,(xs.length:Int),())) (fun i a=>a.1.length=i/\1<=a.2/\a.2 + ((cL (fun _=>1) (xs.drop i):Nat):Int)<=1099511627776) (a0:=([],k)) ⟨rfl,h1,h2⟩ (fun i x a hx ha=>by
    have hlt:=aj hx;obtain ⟨hd,ha1,ha2⟩:=ha;rw [ed _ hx] at ha2;have a1:ak .i64 a.2 1=a.2 + 1:=aL (by omega) (by omega);show vw (a.1 ++ xs.drop i) a.2 (i:Int)=_;unfold vw;rw [iw hx,lI hd,eF hd,eH hd,aO (by omega),a1];dsimp only [cond_true];rw [List.append_assoc]; rfl) (fun i x a a' hx ha hf=>by
    obtain ⟨hd,ha1,ha2⟩:=ha;rw [ed _ hx] at ha2;simp only [Sum.inl.injEq] at hf;subst hf;refine ⟨by rw [List.length_append,hd]; rfl,?_,?_⟩
    . show 1<=a.2 + ((1:Nat):Int); omega
    . show a.2 + ((1:Nat):Int) + _<=_; omega) (fun a ha=>by
    show vw (a.1 ++ xs.drop xs.length) a.2 (xs.length:Int)=_;unfold vw;rw [List.drop_length,List.append_nil,ax ha.1]; rfl)
 rw [mM rH (fun _=>1)] at h;have h':N3 xs k 0=_:=h;rw [h']; rfl
def bS (x:((List UInt8)×(List UInt8)×(List R5)×Unit)):Nat:=x.1.length + x.2.1.length + x.2.2.1.length
def xj (x:((List UInt8)×(List UInt8)×(List R5)×Unit)):Prop:=x.1.length<=aV/\x.2.1.length<=aV/\x.2.2.1.length<=aV
def Iz (x:((List UInt8)×(List UInt8)×(List R5)×Unit)):Prop:=(∀ y∈x.2.2.1,l4 .u8 y.1)
theorem QJ (x:((List UInt8)×(List UInt8)×(List R5)×Unit)) (left:Int) (h0:0<=left) (h1:left<=1048576) (hb:xj x):MD x left=some ((),((Cm left (bS x),()),())):=by
 have hw:bS x=x.1.length + x.2.1.length + x.2.2.1.length:=rfl;unfold MD
 try dsimp only
 by_cases q0:((x.1.length:Nat):Int)<=left;rotate_left
 . rw [dG (s:=x.1) (left:=left) (by omega) (by omega) hb.1]; rw [aD (by omega),a8 (by omega)]; rfl
 rw [dG (s:=x.1) (left:=left) (by omega) (by omega) hb.1]; rw [ay (by omega)]; dsimp only [cond_false];by_cases q1:((x.2.1.length:Nat):Int)<=(left - ((x.1.length:Nat):Int));rotate_left
 . rw [dG (s:=x.2.1) (left:=(left - ((x.1.length:Nat):Int))) (by omega) (by omega) hb.2.1]; rw [aD (by omega),a8 (by omega)]; rfl
 rw [dG (s:=x.2.1) (left:=(left - ((x.1.length:Nat):Int))) (by omega) (by omega) hb.2.1]; rw [ay (by omega)]; dsimp only [cond_false];by_cases q2:((x.2.2.1.length:Nat):Int)<=((left - ((x.1.length:Nat):Int)) - ((x.2.1.length:Nat):Int));rotate_left
 . rw [ni x.2.2.1 ((left - ((x.1.length:Nat):Int)) - ((x.2.1.length:Nat):Int)) (by omega) (by omega) (hb.2.2),a8 q2,a8 (by omega)]; rfl
 rw [ni x.2.2.1 ((left - ((x.1.length:Nat):Int)) - ((x.2.1.length:Nat):Int)) (by omega) (by omega) (hb.2.2),bu q2]; dsimp only [Option.bind_some]; rw [ay (by omega)]; dsimp only [cond_false];rw [bu (by omega)];have e:(((left - ((x.1.length:Nat):Int)) - ((x.2.1.length:Nat):Int)) - ((x.2.2.1.length:Nat):Int))=left - ((bS x:Nat):Int):=by omega
 rw [e]
theorem Pr (x:((List UInt8)×(List UInt8)×(List R5)×Unit)) (h:bS x<=1048576):KW x=some ((),(x,())):=by have hw:bS x=x.1.length + x.2.1.length + x.2.2.1.length:=rfl;unfold KW;rw [Af x.2.2.1 (by omega)];rfl
theorem PX (x:((List UInt8)×(List UInt8)×(List R5)×Unit)) (h:bS x<=1099511627776):Mq x x=some ((),((true,()),())):=by have hw:bS x=x.1.length + x.2.1.length + x.2.2.1.length:=rfl;unfold Mq;simp only [bq,ep,Bool.not_true,cond_false,Option.bind_some,beq_self_eq_true,Ab x.2.2.1 (by omega)]
def eV (x:((List UInt8)×(List UInt8)×(List R5)×Unit)):Nat:=1 + 1 + cL (fun _=>1) x.2.2.1
noncomputable def tG (x:((List UInt8)×(List UInt8)×(List R5)×Unit)) (k:Int):((List UInt8)×(List UInt8)×(List R5)×Unit):=(mt k,mt (k + 1),nM rH (fun _=>1) x.2.2.1 ((k + 1) + 1),())
theorem GR (x:((List UInt8)×(List UInt8)×(List R5)×Unit)):eV x<=100 * (bS x + 1):=by
 have hw:bS x=x.1.length + x.2.1.length + x.2.2.1.length:=rfl;have hc:eV x=1 + 1 + cL (fun _=>1) x.2.2.1:=rfl;have h2:=jy x.2.2.1
 try dsimp only at *
 omega
theorem yQ (xs:List mK) (hb:xs.length<=aV/\∀ y∈xs,wD y) (a:Int) (h0:0<=a) (h1:a<=1048576):Jf xs a 0=some (if ((cL bE xs:Nat):Int)<=a then .inl (xs,a - (cL bE xs:Nat),(xs.length:Int),()) else .inr (-1,())):=by
 have h:=aT (step:=fun (x:(List mK)×Int×Int×Unit)=>pd x.1 x.2.1 x.2.2.1) xs (fun i (a:Int)=>(xs,a,((i:Nat):Int),())) (fun _ x (a:Int)=>bif decide ((bE x:Int)<=a) then Sum.inl (a - bE x) else .inr (.inr (-1,())))
  (fun a=> .inl (xs,a,(xs.length:Int),())) (fun _ a=>0<=a/\a<=1048576) (a0:=a) ⟨h0,h1⟩ (fun i x a hx ha=>by
    have hmem:=List.mem_of_getElem? hx;have hlt:=aj hx;show pd xs a (i:Int)=_;unfold pd;rw [aI hx,aC hx,aW _ hx,Pt x a ha.1 ha.2 (hb.2 x hmem),aO (by omega)];dsimp only [cond_true,Option.bind_some];by_cases q:((bE x:Nat):Int)<=a
    . rw [bu q,ay (by omega),decide_eq_true q]; rfl
    . rw [a8 q,decide_eq_false q]; rfl) (fun i x a a' hx ha hf=>by
    by_cases q:((bE x:Nat):Int)<=a
    . rw [decide_eq_true q] at hf;simp only [cond_true,Sum.inl.injEq] at hf;omega
    . rw [decide_eq_false q] at hf;simp at hf) (fun a ha=>by
    show pd xs a (xs.length:Int)=_;unfold pd;rw [ax rfl]; rfl)
 rw [rG _ _ _ _ _ _ h0] at h;refine Eq.trans h ?_;split <;> rfl
theorem EG (xs:List mK) (left:Int) (h0:0<=left) (h1:left<=1048576) (hb:xs.length<=aV/\∀ y∈xs,wD y):Lw xs left=some ((),((Cm left (wL bE xs),()),())):=by
 have hw:wL bE xs=xs.length + cL bE xs:=rfl;unfold Lw;dsimp only;rw [dG (s:=xs) (left:=left) (by omega) (by omega) hb.1];by_cases q:((xs.length:Nat):Int)<=left
 . rw [ay (by omega)];dsimp only [cond_false];rw [yQ xs hb _ (by omega) (by omega)];by_cases q2:((cL bE xs:Nat):Int)<=left - (xs.length:Int)
   . rw [if_pos q2,bu (by omega)];dsimp only [Option.bind_some,Sum.elim_inl];have e:left - (xs.length:Int) - (cL bE xs:Nat)=left - ((wL bE xs:Nat):Int):=by omega
     rw [e]
   . rw [if_neg q2,a8 (by omega)]; rfl
 . rw [aD (by omega),a8 (by omega)]; rfl
theorem M5 (xs:List mK) (h:wL bE xs<=1048576):KS xs=some ((),((xs,()),())):=by
 have hb:aV=140737488355328:=rfl;have hw:wL bE xs=xs.length + cL bE xs:=rfl;unfold KS;dsimp only;rw [nY (by decide) (by omega),jo]
 have h:=aT (step:=fun (x:(List mK)×(List cG)×Int×Unit)=>oS x.1 x.2.1 x.2.2.1) xs (fun i (a:List mK)=>(xs,a ++ List.replicate (xs.length - i) d157,((i:Nat):Int),())) (fun _ x (a:List mK)=>Sum.inl (a ++ [x]))
  (fun a=> .inl (xs,a,(xs.length:Int),())) (fun i a=>a.length=i) (a0:=[]) rfl (fun i x a hx ha=>by
    have hlt:=aj hx;have hcm:=fo bE hx;show oS xs (a ++ List.replicate (xs.length - i) d157) (i:Int)=_;unfold oS;obtain ⟨q,hq⟩:∃ q,xs.length - i=q + 1:=⟨xs.length - i - 1,by omega⟩;have hq':xs.length - (i + 1)=q:=by omega
    rw [hq,List.replicate_succ,aI hx,aC hx,aW _ hx,PL x (by omega)];dsimp only [cond_true,Option.bind_some];simp only [eF ha,kj _ ha,eH ha,aO (show i<=aV by omega),hq',cond_true,List.append_assoc,List.singleton_append]) (fun i x a a' hx ha hf=>by
    simp only [Sum.inl.injEq] at hf;rw [<- hf,List.length_append,ha]; rfl) (fun a ha=>by
    show oS xs (a ++ List.replicate (xs.length - xs.length) d157) (xs.length:Int)=_;unfold oS;rw [ax rfl,Nat.sub_self,List.replicate_zero,List.append_nil]; rfl)
 rw [jI] at h;have h':Jt xs (List.replicate xs.length d157) 0=_:=h;rw [h']; rfl
theorem LA (xs:List cG) (h:wL bE xs<=1099511627776):Ng xs xs=some ((),((true,()),())):=by
 have hb:aV=140737488355328:=rfl;have hw:wL bE xs=xs.length + cL bE xs:=rfl;unfold Ng;rw [bq];have h:=aG (step:=fun (x:(List cG)×(List cG)×Int×Unit)=>pJ x.1 x.2.1 x.2.2.1) xs (fun i (_:Unit)=>(xs,xs,((i:Nat):Int),())) (fun _ x _=>Sum.inl ()) (fun _=> .inl (xs,xs,(xs.length:Int),())) (a0:=()) (fun i x a hx=>by
  have hlt:=aj hx;have hcm:=fo bE hx;show pJ xs xs (i:Int)=_;unfold pJ;rw [aI hx,aC hx,aW _ hx,PM x (by omega),aO (by omega)]; rfl) (fun a=>by
  show pJ xs xs (xs.length:Int)=_;unfold pJ;rw [ax rfl]; rfl)
 rw [bV (fun _ a=>a)] at h;have h':Iw xs xs 0=_:=h;rw [h']; rfl
theorem F2 (xs:List cG) (k:Int) (h1:1<=k) (h2:k + ((cL cC xs:Nat):Int)<=1099511627776) (h3:wL bE xs<=1099511627776):K9 xs k=some (((nM uc cC xs k,()),()),((k + ((cL cC xs:Nat):Int),()),())):=by
 have hb:aV=140737488355328:=rfl;have hwl:wL bE xs=xs.length + cL bE xs:=rfl;unfold K9
 have h:=aT (step:=fun (x:(List cG)×Int×Int×Unit)=>oB x.1 x.2.1 x.2.2.1) xs (fun i (a:List cG×Int)=>(a.1 ++ xs.drop i,a.2,((i:Nat):Int),())) (fun _ x (a:List cG×Int)=>Sum.inl (a.1 ++ [uc x a.2],a.2 + ((cC x:Nat):Int)))
  (fun a=> .inl (a.1,a.2,(xs.length:Int),())) (fun i a=>a.1.length=i/\1<=a.2/\a.2 + ((cL cC (xs.drop i):Nat):Int)<=1099511627776) (a0:=([],k)) ⟨rfl,h1,h2⟩ (fun i x a hx ha=>by
    have hlt:=aj hx;have hcm:=fo bE hx;obtain ⟨hd,ha1,ha2⟩:=ha;rw [ed _ hx] at ha2;have hc:cC x=1 + 1 + 1:=rfl;have hw:bE x=x.1.length:=rfl;have a0:ak .i64 a.2 1=a.2 + 1:=aL (by omega) (by omega);have a1:ak .i64 (a.2 + 1) 1=(a.2 + 1) + 1:=aL (by omega) (by omega);have a2:ak .i64 ((a.2 + 1) + 1) 1=((a.2 + 1) + 1) + 1:=aL (by omega) (by omega);show oB (a.1 ++ xs.drop i) a.2 (i:Int)=_;unfold oB;have e:(((a.2 + 1) + 1) + 1)=a.2 + ((cC x:Nat):Int):=by omega
    simp only [iw hx,lI hd,eF hd,eH hd,kj _ hd,aO (show i<=aV by omega),cond_true,Option.bind_some,a0,text (k:=a.2) (by omega) (by omega),a1,a2];rw [e,List.append_assoc]; rfl) (fun i x a a' hx ha hf=>by
    obtain ⟨hd,ha1,ha2⟩:=ha;rw [ed _ hx] at ha2;simp only [Sum.inl.injEq] at hf;subst hf;refine ⟨by rw [List.length_append,hd]; rfl,?_,?_⟩
    . show 1<=a.2 + ((cC x:Nat):Int); omega
    . show a.2 + ((cC x:Nat):Int) + _<=_; omega) (fun a ha=>by
    show oB (a.1 ++ xs.drop xs.length) a.2 (xs.length:Int)=_;unfold oB;rw [List.drop_length,List.append_nil,ax ha.1]; rfl)
 rw [mM uc cC] at h;have h':Jv xs k 0=_:=h;rw [h']; rfl
theorem zU (xs:List lQ) (hb:xs.length<=aV/\∀ y∈xs,xj y) (a:Int) (h0:0<=a) (h1:a<=1048576):IW xs a 0=some (if ((cL bS xs:Nat):Int)<=a then .inl (xs,a - (cL bS xs:Nat),(xs.length:Int),()) else .inr (-1,())):=by
 have h:=aT (step:=fun (x:(List lQ)×Int×Int×Unit)=>pn x.1 x.2.1 x.2.2.1) xs (fun i (a:Int)=>(xs,a,((i:Nat):Int),())) (fun _ x (a:Int)=>bif decide ((bS x:Int)<=a) then Sum.inl (a - bS x) else .inr (.inr (-1,())))
  (fun a=> .inl (xs,a,(xs.length:Int),())) (fun _ a=>0<=a/\a<=1048576) (a0:=a) ⟨h0,h1⟩ (fun i x a hx ha=>by
    have hmem:=List.mem_of_getElem? hx;have hlt:=aj hx;show pn xs a (i:Int)=_;unfold pn;rw [aI hx,aC hx,aW _ hx,QJ x a ha.1 ha.2 (hb.2 x hmem),aO (by omega)];dsimp only [cond_true,Option.bind_some];by_cases q:((bS x:Nat):Int)<=a
    . rw [bu q,ay (by omega),decide_eq_true q]; rfl
    . rw [a8 q,decide_eq_false q]; rfl) (fun i x a a' hx ha hf=>by
    by_cases q:((bS x:Nat):Int)<=a
    . rw [decide_eq_true q] at hf;simp only [cond_true,Sum.inl.injEq] at hf;omega
    . rw [decide_eq_false q] at hf;simp at hf) (fun a ha=>by
    show pn xs a (xs.length:Int)=_;unfold pn;rw [ax rfl]; rfl)
 rw [rG _ _ _ _ _ _ h0] at h;refine Eq.trans h ?_;split <;> rfl
theorem EN (xs:List lQ) (left:Int) (h0:0<=left) (h1:left<=1048576) (hb:xs.length<=aV/\∀ y∈xs,xj y):Mv xs left=some ((),((Cm left (wL bS xs),()),())):=by
 have hw:wL bS xs=xs.length + cL bS xs:=rfl;unfold Mv;dsimp only;rw [dG (s:=xs) (left:=left) (by omega) (by omega) hb.1];by_cases q:((xs.length:Nat):Int)<=left
 . rw [ay (by omega)];dsimp only [cond_false];rw [zU xs hb _ (by omega) (by omega)];by_cases q2:((cL bS xs:Nat):Int)<=left - (xs.length:Int)
   . rw [if_pos q2,bu (by omega)];dsimp only [Option.bind_some,Sum.elim_inl];have e:left - (xs.length:Int) - (cL bS xs:Nat)=left - ((wL bS xs:Nat):Int):=by omega
     rw [e]
   . rw [if_neg q2,a8 (by omega)]; rfl
 . rw [aD (by omega),a8 (by omega)]; rfl
theorem Ml (xs:List lQ) (h:wL bS xs<=1048576):Ma xs=some ((),((xs,()),())):=by
 have hb:aV=140737488355328:=rfl;have hw:wL bS xs=xs.length + cL bS xs:=rfl;unfold Ma;dsimp only;rw [nY (by decide) (by omega),jo]
 have h:=aT (step:=fun (x:(List lQ)×(List cw)×Int×Unit)=>oX x.1 x.2.1 x.2.2.1) xs (fun i (a:List lQ)=>(xs,a ++ List.replicate (xs.length - i) d160,((i:Nat):Int),())) (fun _ x (a:List lQ)=>Sum.inl (a ++ [x]))
  (fun a=> .inl (xs,a,(xs.length:Int),())) (fun i a=>a.length=i) (a0:=[]) rfl (fun i x a hx ha=>by
    have hlt:=aj hx;have hcm:=fo bS hx;show oX xs (a ++ List.replicate (xs.length - i) d160) (i:Int)=_;unfold oX;obtain ⟨q,hq⟩:∃ q,xs.length - i=q + 1:=⟨xs.length - i - 1,by omega⟩;have hq':xs.length - (i + 1)=q:=by omega
    rw [hq,List.replicate_succ,aI hx,aC hx,aW _ hx,Pr x (by omega)];dsimp only [cond_true,Option.bind_some];simp only [eF ha,kj _ ha,eH ha,aO (show i<=aV by omega),hq',cond_true,List.append_assoc,List.singleton_append]) (fun i x a a' hx ha hf=>by
    simp only [Sum.inl.injEq] at hf;rw [<- hf,List.length_append,ha]; rfl) (fun a ha=>by
    show oX xs (a ++ List.replicate (xs.length - xs.length) d160) (xs.length:Int)=_;unfold oX;rw [ax rfl,Nat.sub_self,List.replicate_zero,List.append_nil]; rfl)
 rw [jI] at h;have h':IZ xs (List.replicate xs.length d160) 0=_:=h;rw [h']; rfl
theorem MF (xs:List cw) (h:wL bS xs<=1099511627776):LR xs xs=some ((),((true,()),())):=by
 have hb:aV=140737488355328:=rfl;have hw:wL bS xs=xs.length + cL bS xs:=rfl;unfold LR;rw [bq];have h:=aG (step:=fun (x:(List cw)×(List cw)×Int×Unit)=>nZ x.1 x.2.1 x.2.2.1) xs (fun i (_:Unit)=>(xs,xs,((i:Nat):Int),())) (fun _ x _=>Sum.inl ()) (fun _=> .inl (xs,xs,(xs.length:Int),())) (a0:=()) (fun i x a hx=>by
  have hlt:=aj hx;have hcm:=fo bS hx;show nZ xs xs (i:Int)=_;unfold nZ;rw [aI hx,aC hx,aW _ hx,PX x (by omega),aO (by omega)]; rfl) (fun a=>by
  show nZ xs xs (xs.length:Int)=_;unfold nZ;rw [ax rfl]; rfl)
 rw [bV (fun _ a=>a)] at h;have h':J0 xs xs 0=_:=h;rw [h']; rfl
theorem GP (xs:List cw) (k:Int) (h1:1<=k) (h2:k + ((cL eV xs:Nat):Int)<=1099511627776) (h3:wL bS xs<=1099511627776):M8 xs k=some (((nM tG eV xs k,()),()),((k + ((cL eV xs:Nat):Int),()),())):=by
 have hb:aV=140737488355328:=rfl;have hwl:wL bS xs=xs.length + cL bS xs:=rfl;unfold M8
 have h:=aT (step:=fun (x:(List cw)×Int×Int×Unit)=>nU x.1 x.2.1 x.2.2.1) xs (fun i (a:List cw×Int)=>(a.1 ++ xs.drop i,a.2,((i:Nat):Int),())) (fun _ x (a:List cw×Int)=>Sum.inl (a.1 ++ [tG x a.2],a.2 + ((eV x:Nat):Int)))
  (fun a=> .inl (a.1,a.2,(xs.length:Int),())) (fun i a=>a.1.length=i/\1<=a.2/\a.2 + ((cL eV (xs.drop i):Nat):Int)<=1099511627776) (a0:=([],k)) ⟨rfl,h1,h2⟩ (fun i x a hx ha=>by
    have hlt:=aj hx;have hcm:=fo bS hx;obtain ⟨hd,ha1,ha2⟩:=ha;rw [ed _ hx] at ha2;have hc:eV x=1 + 1 + cL (fun _=>1) x.2.2.1:=rfl;have hw:bS x=x.1.length + x.2.1.length + x.2.2.1.length:=rfl;have a0:ak .i64 a.2 1=a.2 + 1:=aL (by omega) (by omega);have a1:ak .i64 (a.2 + 1) 1=(a.2 + 1) + 1:=aL (by omega) (by omega);have m2:=rW x.2.2.1 ((a.2 + 1) + 1) (by omega) (by omega);show nU (a.1 ++ xs.drop i) a.2 (i:Int)=_;unfold nU;have e:(((a.2 + 1) + 1) + ((cL (fun _=>1) x.2.2.1:Nat):Int))=a.2 + ((eV x:Nat):Int):=by omega
    simp only [iw hx,lI hd,eF hd,eH hd,kj _ hd,aO (show i<=aV by omega),cond_true,Option.bind_some,a0,text (k:=a.2) (by omega) (by omega),a1,text (k:=(a.2 + 1)) (by omega) (by omega),m2];rw [e,List.append_assoc]; rfl) (fun i x a a' hx ha hf=>by
    obtain ⟨hd,ha1,ha2⟩:=ha;rw [ed _ hx] at ha2;simp only [Sum.inl.injEq] at hf;subst hf;refine ⟨by rw [List.length_append,hd]; rfl,?_,?_⟩
    . show 1<=a.2 + ((eV x:Nat):Int); omega
    . show a.2 + ((eV x:Nat):Int) + _<=_; omega) (fun a ha=>by
    show nU (a.1 ++ xs.drop xs.length) a.2 (xs.length:Int)=_;unfold nU;rw [List.drop_length,List.append_nil,ax ha.1]; rfl)
 rw [mM tG eV] at h;have h':IL xs k 0=_:=h;rw [h']; rfl
def bC (x:((List UInt8)×Int×Int×Int×Int×(List cG)×Int×Int×(List R3)×(List R3)×(List cw)×Unit)):Nat:=x.1.length + wL bE x.2.2.2.2.2.1 + fL (x.2.2.2.2.2.2.1,x.2.2.2.2.2.2.2.1,x.2.2.2.2.2.2.2.2.1,x.2.2.2.2.2.2.2.2.2.1,()) + wL bS x.2.2.2.2.2.2.2.2.2.2.1
def wR (x:((List UInt8)×Int×Int×Int×Int×(List cG)×Int×Int×(List R3)×(List R3)×(List cw)×Unit)):Prop:=x.1.length<=aV/\(x.2.2.2.2.2.1.length<=aV/\∀ y∈x.2.2.2.2.2.1,wD y)/\Kb (x.2.2.2.2.2.2.1,x.2.2.2.2.2.2.2.1,x.2.2.2.2.2.2.2.2.1,x.2.2.2.2.2.2.2.2.2.1,())/\(x.2.2.2.2.2.2.2.2.2.2.1.length<=aV/\∀ y∈x.2.2.2.2.2.2.2.2.2.2.1,xj y)
def J4 (x:((List UInt8)×Int×Int×Int×Int×(List cG)×Int×Int×(List R3)×(List R3)×(List cw)×Unit)):Prop:=(∀ y∈x.2.2.2.2.2.2.2.2.2.2.1,Iz y)
theorem Pf (x:((List UInt8)×Int×Int×Int×Int×(List cG)×Int×Int×(List R3)×(List R3)×(List cw)×Unit)) (left:Int) (h0:0<=left) (h1:left<=1048576) (hb:wR x):VT x left=some ((),((Cm left (bC x),()),())):=by
 have hw:bC x=x.1.length + wL bE x.2.2.2.2.2.1 + fL (x.2.2.2.2.2.2.1,x.2.2.2.2.2.2.2.1,x.2.2.2.2.2.2.2.2.1,x.2.2.2.2.2.2.2.2.2.1,()) + wL bS x.2.2.2.2.2.2.2.2.2.2.1:=rfl;unfold VT
 try dsimp only
 by_cases q0:((x.1.length:Nat):Int)<=left;rotate_left
 . rw [dG (s:=x.1) (left:=left) (by omega) (by omega) hb.1]; rw [aD (by omega),a8 (by omega)]; rfl
 rw [dG (s:=x.1) (left:=left) (by omega) (by omega) hb.1]; rw [ay (by omega)]; dsimp only [cond_false];by_cases q1:((wL bE x.2.2.2.2.2.1:Nat):Int)<=(left - ((x.1.length:Nat):Int));rotate_left
 . rw [EG x.2.2.2.2.2.1 (left - ((x.1.length:Nat):Int)) (by omega) (by omega) (hb.2.1),a8 q1,a8 (by omega)]; rfl
 rw [EG x.2.2.2.2.2.1 (left - ((x.1.length:Nat):Int)) (by omega) (by omega) (hb.2.1),bu q1]; dsimp only [Option.bind_some]; rw [ay (by omega)]; dsimp only [cond_false];by_cases q2:((fL (x.2.2.2.2.2.2.1,x.2.2.2.2.2.2.2.1,x.2.2.2.2.2.2.2.2.1,x.2.2.2.2.2.2.2.2.2.1,()):Nat):Int)<=((left - ((x.1.length:Nat):Int)) - ((wL bE x.2.2.2.2.2.1:Nat):Int));rotate_left
 . rw [JF (x.2.2.2.2.2.2.1,x.2.2.2.2.2.2.2.1,x.2.2.2.2.2.2.2.2.1,x.2.2.2.2.2.2.2.2.2.1,()) ((left - ((x.1.length:Nat):Int)) - ((wL bE x.2.2.2.2.2.1:Nat):Int)) (by omega) (by omega) (hb.2.2.1),a8 q2,a8 (by omega)]; rfl
 rw [JF (x.2.2.2.2.2.2.1,x.2.2.2.2.2.2.2.1,x.2.2.2.2.2.2.2.2.1,x.2.2.2.2.2.2.2.2.2.1,()) ((left - ((x.1.length:Nat):Int)) - ((wL bE x.2.2.2.2.2.1:Nat):Int)) (by omega) (by omega) (hb.2.2.1),bu q2]; dsimp only [Option.bind_some]; rw [ay (by omega)]; dsimp only [cond_false];by_cases q3:((wL bS x.2.2.2.2.2.2.2.2.2.2.1:Nat):Int)<=(((left - ((x.1.length:Nat):Int)) - ((wL bE x.2.2.2.2.2.1:Nat):Int)) - ((fL (x.2.2.2.2.2.2.1,x.2.2.2.2.2.2.2.1,x.2.2.2.2.2.2.2.2.1,x.2.2.2.2.2.2.2.2.2.1,()):Nat):Int));rotate_left
 . rw [EN x.2.2.2.2.2.2.2.2.2.2.1 (((left - ((x.1.length:Nat):Int)) - ((wL bE x.2.2.2.2.2.1:Nat):Int)) - ((fL (x.2.2.2.2.2.2.1,x.2.2.2.2.2.2.2.1,x.2.2.2.2.2.2.2.2.1,x.2.2.2.2.2.2.2.2.2.1,()):Nat):Int)) (by omega) (by omega) (hb.2.2.2),a8 q3,a8 (by omega)]; rfl
 rw [EN x.2.2.2.2.2.2.2.2.2.2.1 (((left - ((x.1.length:Nat):Int)) - ((wL bE x.2.2.2.2.2.1:Nat):Int)) - ((fL (x.2.2.2.2.2.2.1,x.2.2.2.2.2.2.2.1,x.2.2.2.2.2.2.2.2.1,x.2.2.2.2.2.2.2.2.2.1,()):Nat):Int)) (by omega) (by omega) (hb.2.2.2),bu q3]; dsimp only [Option.bind_some]; rw [ay (by omega)]; dsimp only [cond_false];rw [bu (by omega)];have e:((((left - ((x.1.length:Nat):Int)) - ((wL bE x.2.2.2.2.2.1:Nat):Int)) - ((fL (x.2.2.2.2.2.2.1,x.2.2.2.2.2.2.2.1,x.2.2.2.2.2.2.2.2.1,x.2.2.2.2.2.2.2.2.2.1,()):Nat):Int)) - ((wL bS x.2.2.2.2.2.2.2.2.2.2.1:Nat):Int))=left - ((bC x:Nat):Int):=by omega
 rw [e]
theorem Pd (x:((List UInt8)×Int×Int×Int×Int×(List cG)×Int×Int×(List R3)×(List R3)×(List cw)×Unit)) (h:bC x<=1048576):Mb x=some ((),(x,())):=by have hw:bC x=x.1.length + wL bE x.2.2.2.2.2.1 + fL (x.2.2.2.2.2.2.1,x.2.2.2.2.2.2.2.1,x.2.2.2.2.2.2.2.2.1,x.2.2.2.2.2.2.2.2.2.1,()) + wL bS x.2.2.2.2.2.2.2.2.2.2.1:=rfl;unfold Mb;rw [M5 x.2.2.2.2.2.1 (by omega)];rw [toRing (x.2.2.2.2.2.2.1,x.2.2.2.2.2.2.2.1,x.2.2.2.2.2.2.2.2.1,x.2.2.2.2.2.2.2.2.2.1,()) (by omega)];rw [Ml x.2.2.2.2.2.2.2.2.2.2.1 (by omega)];rfl
theorem Qq (x:((List UInt8)×Int×Int×Int×Int×(List cG)×Int×Int×(List R3)×(List R3)×(List cw)×Unit)) (h:bC x<=1099511627776):LB x x=some ((),((true,()),())):=by have hw:bC x=x.1.length + wL bE x.2.2.2.2.2.1 + fL (x.2.2.2.2.2.2.1,x.2.2.2.2.2.2.2.1,x.2.2.2.2.2.2.2.2.1,x.2.2.2.2.2.2.2.2.2.1,()) + wL bS x.2.2.2.2.2.2.2.2.2.2.1:=rfl;unfold LB;simp only [bq,ep,Bool.not_true,cond_false,Option.bind_some,beq_self_eq_true,LA x.2.2.2.2.2.1 (by omega),Rj (x.2.2.2.2.2.2.1,x.2.2.2.2.2.2.2.1,x.2.2.2.2.2.2.2.2.1,x.2.2.2.2.2.2.2.2.2.1,()) (by omega),MF x.2.2.2.2.2.2.2.2.2.2.1 (by omega)]
def fk (x:((List UInt8)×Int×Int×Int×Int×(List cG)×Int×Int×(List R3)×(List R3)×(List cw)×Unit)):Nat:=1 + 1 + 1 + 1 + 1 + cL cC x.2.2.2.2.2.1 + 1 + 1 + cL (fun _=>1) x.2.2.2.2.2.2.2.2.1 + cL (fun _=>1) x.2.2.2.2.2.2.2.2.2.1 + cL eV x.2.2.2.2.2.2.2.2.2.2.1
noncomputable def tY (x:((List UInt8)×Int×Int×Int×Int×(List cG)×Int×Int×(List R3)×(List R3)×(List cw)×Unit)) (k:Int):((List UInt8)×Int×Int×Int×Int×(List cG)×Int×Int×(List R3)×(List R3)×(List cw)×Unit):=(mt k,(k + 1),((k + 1) + 1),(((k + 1) + 1) + 1),((((k + 1) + 1) + 1) + 1),nM uc cC x.2.2.2.2.2.1 (((((k + 1) + 1) + 1) + 1) + 1),((((((k + 1) + 1) + 1) + 1) + 1) + ((cL cC x.2.2.2.2.2.1:Nat):Int)),(((((((k + 1) + 1) + 1) + 1) + 1) + ((cL cC x.2.2.2.2.2.1:Nat):Int)) + 1),nM mkInt (fun _=>1) x.2.2.2.2.2.2.2.2.1 ((((((((k + 1) + 1) + 1) + 1) + 1) + ((cL cC x.2.2.2.2.2.1:Nat):Int)) + 1) + 1),nM mkInt (fun _=>1) x.2.2.2.2.2.2.2.2.2.1 (((((((((k + 1) + 1) + 1) + 1) + 1) + ((cL cC x.2.2.2.2.2.1:Nat):Int)) + 1) + 1) + ((cL (fun _=>1) x.2.2.2.2.2.2.2.2.1:Nat):Int)),nM tG eV x.2.2.2.2.2.2.2.2.2.2.1 ((((((((((k + 1) + 1) + 1) + 1) + 1) + ((cL cC x.2.2.2.2.2.1:Nat):Int)) + 1) + 1) + ((cL (fun _=>1) x.2.2.2.2.2.2.2.2.1:Nat):Int)) + ((cL (fun _=>1) x.2.2.2.2.2.2.2.2.2.1:Nat):Int)),())
theorem EZ (x:((List UInt8)×Int×Int×Int×Int×(List cG)×Int×Int×(List R3)×(List R3)×(List cw)×Unit)):fk x<=100 * (bC x + 1):=by
 have hw:bC x=x.1.length + wL bE x.2.2.2.2.2.1 + fL (x.2.2.2.2.2.2.1,x.2.2.2.2.2.2.2.1,x.2.2.2.2.2.2.2.2.1,x.2.2.2.2.2.2.2.2.2.1,()) + wL bS x.2.2.2.2.2.2.2.2.2.2.1:=rfl;have hc:fk x=1 + 1 + 1 + 1 + 1 + cL cC x.2.2.2.2.2.1 + 1 + 1 + cL (fun _=>1) x.2.2.2.2.2.2.2.2.1 + cL (fun _=>1) x.2.2.2.2.2.2.2.2.2.1 + cL eV x.2.2.2.2.2.2.2.2.2.2.1:=rfl;have hw6:fL (x.2.2.2.2.2.2.1,x.2.2.2.2.2.2.2.1,x.2.2.2.2.2.2.2.2.1,x.2.2.2.2.2.2.2.2.2.1,())=(x.2.2.2.2.2.2.1,x.2.2.2.2.2.2.2.1,x.2.2.2.2.2.2.2.2.1,x.2.2.2.2.2.2.2.2.2.1,()).2.2.1.length + (x.2.2.2.2.2.2.1,x.2.2.2.2.2.2.2.1,x.2.2.2.2.2.2.2.2.1,x.2.2.2.2.2.2.2.2.2.1,()).2.2.2.1.length:=rfl;have h5:=yy EX x.2.2.2.2.2.1;have h8:=jy x.2.2.2.2.2.2.2.2.1;have h9:=jy x.2.2.2.2.2.2.2.2.2.1;have h10:=yy GR x.2.2.2.2.2.2.2.2.2.2.1
 try dsimp only at *
 omega
theorem yP (xs:List mu) (hb:xs.length<=aV/\∀ y∈xs,wR y) (a:Int) (h0:0<=a) (h1:a<=1048576):N6 xs a 0=some (if ((cL bC xs:Nat):Int)<=a then .inl (xs,a - (cL bC xs:Nat),(xs.length:Int),()) else .inr (-1,())):=by
 have h:=aT (step:=fun (x:(List mu)×Int×Int×Unit)=>wk x.1 x.2.1 x.2.2.1) xs (fun i (a:Int)=>(xs,a,((i:Nat):Int),())) (fun _ x (a:Int)=>bif decide ((bC x:Int)<=a) then Sum.inl (a - bC x) else .inr (.inr (-1,())))
  (fun a=> .inl (xs,a,(xs.length:Int),())) (fun _ a=>0<=a/\a<=1048576) (a0:=a) ⟨h0,h1⟩ (fun i x a hx ha=>by
    have hmem:=List.mem_of_getElem? hx;have hlt:=aj hx;show wk xs a (i:Int)=_;unfold wk;rw [aI hx,aC hx,aW _ hx,Pf x a ha.1 ha.2 (hb.2 x hmem),aO (by omega)];dsimp only [cond_true,Option.bind_some];by_cases q:((bC x:Nat):Int)<=a
    . rw [bu q,ay (by omega),decide_eq_true q]; rfl
    . rw [a8 q,decide_eq_false q]; rfl) (fun i x a a' hx ha hf=>by
    by_cases q:((bC x:Nat):Int)<=a
    . rw [decide_eq_true q] at hf;simp only [cond_true,Sum.inl.injEq] at hf;omega
    . rw [decide_eq_false q] at hf;simp at hf) (fun a ha=>by
    show wk xs a (xs.length:Int)=_;unfold wk;rw [ax rfl]; rfl)
 rw [rG _ _ _ _ _ _ h0] at h;refine Eq.trans h ?_;split <;> rfl
theorem EH (xs:List mu) (left:Int) (h0:0<=left) (h1:left<=1048576) (hb:xs.length<=aV/\∀ y∈xs,wR y):Vx xs left=some ((),((Cm left (wL bC xs),()),())):=by
 have hw:wL bC xs=xs.length + cL bC xs:=rfl;unfold Vx;dsimp only;rw [dG (s:=xs) (left:=left) (by omega) (by omega) hb.1];by_cases q:((xs.length:Nat):Int)<=left
 . rw [ay (by omega)];dsimp only [cond_false];rw [yP xs hb _ (by omega) (by omega)];by_cases q2:((cL bC xs:Nat):Int)<=left - (xs.length:Int)
   . rw [if_pos q2,bu (by omega)];dsimp only [Option.bind_some,Sum.elim_inl];have e:left - (xs.length:Int) - (cL bC xs:Nat)=left - ((wL bC xs:Nat):Int):=by omega
     rw [e]
   . rw [if_neg q2,a8 (by omega)]; rfl
 . rw [aD (by omega),a8 (by omega)]; rfl
theorem LW (xs:List mu) (h:wL bC xs<=1048576):VF xs=some ((),((xs,()),())):=by
 have hb:aV=140737488355328:=rfl;have hw:wL bC xs=xs.length + cL bC xs:=rfl;unfold VF;dsimp only;rw [nY (by decide) (by omega),jo]
 have h:=aT (step:=fun (x:(List mu)×(List di)×Int×Unit)=>wV x.1 x.2.1 x.2.2.1) xs (fun i (a:List mu)=>(xs,a ++ List.replicate (xs.length - i) d92,((i:Nat):Int),())) (fun _ x (a:List mu)=>Sum.inl (a ++ [x]))
  (fun a=> .inl (xs,a,(xs.length:Int),())) (fun i a=>a.length=i) (a0:=[]) rfl (fun i x a hx ha=>by
    have hlt:=aj hx;have hcm:=fo bC hx;show wV xs (a ++ List.replicate (xs.length - i) d92) (i:Int)=_;unfold wV;obtain ⟨q,hq⟩:∃ q,xs.length - i=q + 1:=⟨xs.length - i - 1,by omega⟩;have hq':xs.length - (i + 1)=q:=by omega
    rw [hq,List.replicate_succ,aI hx,aC hx,aW _ hx,Pd x (by omega)];dsimp only [cond_true,Option.bind_some];simp only [eF ha,kj _ ha,eH ha,aO (show i<=aV by omega),hq',cond_true,List.append_assoc,List.singleton_append]) (fun i x a a' hx ha hf=>by
    simp only [Sum.inl.injEq] at hf;rw [<- hf,List.length_append,ha]; rfl) (fun a ha=>by
    show wV xs (a ++ List.replicate (xs.length - xs.length) d92) (xs.length:Int)=_;unfold wV;rw [ax rfl,Nat.sub_self,List.replicate_zero,List.append_nil]; rfl)
 rw [jI] at h;have h':OW xs (List.replicate xs.length d92) 0=_:=h;rw [h']; rfl
theorem MR (xs:List di) (h:wL bC xs<=1099511627776):Vz xs xs=some ((),((true,()),())):=by
 have hb:aV=140737488355328:=rfl;have hw:wL bC xs=xs.length + cL bC xs:=rfl;unfold Vz;rw [bq];have h:=aG (step:=fun (x:(List di)×(List di)×Int×Unit)=>vT x.1 x.2.1 x.2.2.1) xs (fun i (_:Unit)=>(xs,xs,((i:Nat):Int),())) (fun _ x _=>Sum.inl ()) (fun _=> .inl (xs,xs,(xs.length:Int),())) (a0:=()) (fun i x a hx=>by
  have hlt:=aj hx;have hcm:=fo bC hx;show vT xs xs (i:Int)=_;unfold vT;rw [aI hx,aC hx,aW _ hx,Qq x (by omega),aO (by omega)]; rfl) (fun a=>by
  show vT xs xs (xs.length:Int)=_;unfold vT;rw [ax rfl]; rfl)
 rw [bV (fun _ a=>a)] at h;have h':Om xs xs 0=_:=h;rw [h']; rfl
theorem Gd (xs:List di) (k:Int) (h1:1<=k) (h2:k + ((cL fk xs:Nat):Int)<=1099511627776) (h3:wL bC xs<=1099511627776):V5 xs k=some (((nM tY fk xs k,()),()),((k + ((cL fk xs:Nat):Int),()),())):=by
 have hb:aV=140737488355328:=rfl;have hwl:wL bC xs=xs.length + cL bC xs:=rfl;unfold V5
 have h:=aT (step:=fun (x:(List di)×Int×Int×Unit)=>vD x.1 x.2.1 x.2.2.1) xs (fun i (a:List di×Int)=>(a.1 ++ xs.drop i,a.2,((i:Nat):Int),())) (fun _ x (a:List di×Int)=>Sum.inl (a.1 ++ [tY x a.2],a.2 + ((fk x:Nat):Int)))
  (fun a=> .inl (a.1,a.2,(xs.length:Int),())) (fun i a=>a.1.length=i/\1<=a.2/\a.2 + ((cL fk (xs.drop i):Nat):Int)<=1099511627776) (a0:=([],k)) ⟨rfl,h1,h2⟩ (fun i x a hx ha=>by
    have hlt:=aj hx;have hcm:=fo bC hx;obtain ⟨hd,ha1,ha2⟩:=ha;rw [ed _ hx] at ha2;have hc:fk x=1 + 1 + 1 + 1 + 1 + cL cC x.2.2.2.2.2.1 + 1 + 1 + cL (fun _=>1) x.2.2.2.2.2.2.2.2.1 + cL (fun _=>1) x.2.2.2.2.2.2.2.2.2.1 + cL eV x.2.2.2.2.2.2.2.2.2.2.1:=rfl;have hw:bC x=x.1.length + wL bE x.2.2.2.2.2.1 + fL (x.2.2.2.2.2.2.1,x.2.2.2.2.2.2.2.1,x.2.2.2.2.2.2.2.2.1,x.2.2.2.2.2.2.2.2.2.1,()) + wL bS x.2.2.2.2.2.2.2.2.2.2.1:=rfl;have hw6:fL (x.2.2.2.2.2.2.1,x.2.2.2.2.2.2.2.1,x.2.2.2.2.2.2.2.2.1,x.2.2.2.2.2.2.2.2.2.1,())=(x.2.2.2.2.2.2.1,x.2.2.2.2.2.2.2.1,x.2.2.2.2.2.2.2.2.1,x.2.2.2.2.2.2.2.2.2.1,()).2.2.1.length + (x.2.2.2.2.2.2.1,x.2.2.2.2.2.2.2.1,x.2.2.2.2.2.2.2.2.1,x.2.2.2.2.2.2.2.2.2.1,()).2.2.2.1.length:=rfl;have a0:ak .i64 a.2 1=a.2 + 1:=aL (by omega) (by omega);have a1:ak .i64 (a.2 + 1) 1=(a.2 + 1) + 1:=aL (by omega) (by omega);have a2:ak .i64 ((a.2 + 1) + 1) 1=((a.2 + 1) + 1) + 1:=aL (by omega) (by omega);have a3:ak .i64 (((a.2 + 1) + 1) + 1) 1=(((a.2 + 1) + 1) + 1) + 1:=aL (by omega) (by omega);have a4:ak .i64 ((((a.2 + 1) + 1) + 1) + 1) 1=((((a.2 + 1) + 1) + 1) + 1) + 1:=aL (by omega) (by omega);have m5:=F2 x.2.2.2.2.2.1 (((((a.2 + 1) + 1) + 1) + 1) + 1) (by omega) (by omega) (by omega);have a6:ak .i64 ((((((a.2 + 1) + 1) + 1) + 1) + 1) + ((cL cC x.2.2.2.2.2.1:Nat):Int)) 1=((((((a.2 + 1) + 1) + 1) + 1) + 1) + ((cL cC x.2.2.2.2.2.1:Nat):Int)) + 1:=aL (by omega) (by omega);have a7:ak .i64 (((((((a.2 + 1) + 1) + 1) + 1) + 1) + ((cL cC x.2.2.2.2.2.1:Nat):Int)) + 1) 1=(((((((a.2 + 1) + 1) + 1) + 1) + 1) + ((cL cC x.2.2.2.2.2.1:Nat):Int)) + 1) + 1:=aL (by omega) (by omega);have m8:=qP x.2.2.2.2.2.2.2.2.1 ((((((((a.2 + 1) + 1) + 1) + 1) + 1) + ((cL cC x.2.2.2.2.2.1:Nat):Int)) + 1) + 1) (by omega) (by omega);have m9:=qP x.2.2.2.2.2.2.2.2.2.1 (((((((((a.2 + 1) + 1) + 1) + 1) + 1) + ((cL cC x.2.2.2.2.2.1:Nat):Int)) + 1) + 1) + ((cL (fun _=>1) x.2.2.2.2.2.2.2.2.1:Nat):Int)) (by omega) (by omega);have m10:=GP x.2.2.2.2.2.2.2.2.2.2.1 ((((((((((a.2 + 1) + 1) + 1) + 1) + 1) + ((cL cC x.2.2.2.2.2.1:Nat):Int)) + 1) + 1) + ((cL (fun _=>1) x.2.2.2.2.2.2.2.2.1:Nat):Int)) + ((cL (fun _=>1) x.2.2.2.2.2.2.2.2.2.1:Nat):Int)) (by omega) (by omega) (by omega);show vD (a.1 ++ xs.drop i) a.2 (i:Int)=_;unfold vD;have e:(((((((((((a.2 + 1) + 1) + 1) + 1) + 1) + ((cL cC x.2.2.2.2.2.1:Nat):Int)) + 1) + 1) + ((cL (fun _=>1) x.2.2.2.2.2.2.2.2.1:Nat):Int)) + ((cL (fun _=>1) x.2.2.2.2.2.2.2.2.2.1:Nat):Int)) + ((cL eV x.2.2.2.2.2.2.2.2.2.2.1:Nat):Int))=a.2 + ((fk x:Nat):Int):=by omega
    simp only [iw hx,lI hd,eF hd,eH hd,kj _ hd,aO (show i<=aV by omega),cond_true,Option.bind_some,a0,text (k:=a.2) (by omega) (by omega),a1,a2,a3,a4,m5,a6,a7,m8,m9,m10];rw [e,List.append_assoc]; rfl) (fun i x a a' hx ha hf=>by
    obtain ⟨hd,ha1,ha2⟩:=ha;rw [ed _ hx] at ha2;simp only [Sum.inl.injEq] at hf;subst hf;refine ⟨by rw [List.length_append,hd]; rfl,?_,?_⟩
    . show 1<=a.2 + ((fk x:Nat):Int); omega
    . show a.2 + ((fk x:Nat):Int) + _<=_; omega) (fun a ha=>by
    show vD (a.1 ++ xs.drop xs.length) a.2 (xs.length:Int)=_;unfold vD;rw [List.drop_length,List.append_nil,ax ha.1]; rfl)
 rw [mM tY fk] at h;have h':Ob xs k 0=_:=h;rw [h']; rfl
def aS (x:(Int×(List di)×Unit)):Nat:=wL bC x.2.1
def mq (x:(Int×(List di)×Unit)):Prop:=(x.2.1.length<=aV/\∀ y∈x.2.1,wR y)
def A5 (x:(Int×(List di)×Unit)):Prop:=(∀ y∈x.2.1,J4 y)
theorem G4 (x:(Int×(List di)×Unit)) (left:Int) (h0:0<=left) (h1:left<=1048576) (hb:mq x):VC x left=some ((),((Cm left (aS x),()),())):=by
 have hw:aS x=wL bC x.2.1:=rfl;unfold VC
 try dsimp only
 by_cases q0:((wL bC x.2.1:Nat):Int)<=left;rotate_left
 . rw [EH x.2.1 left (by omega) (by omega) (hb),a8 q0,a8 (by omega)]; rfl
 rw [EH x.2.1 left (by omega) (by omega) (hb),bu q0]; dsimp only [Option.bind_some]; rw [ay (by omega)]; dsimp only [cond_false];rw [bu (by omega)];have e:(left - ((wL bC x.2.1:Nat):Int))=left - ((aS x:Nat):Int):=by omega
 rw [e]
theorem IY (x:(Int×(List di)×Unit)) (h:aS x<=1048576):VB x=some ((),(x,())):=by have hw:aS x=wL bC x.2.1:=rfl;unfold VB;rw [LW x.2.1 (by omega)];rfl
theorem HW (x:(Int×(List di)×Unit)) (h:aS x<=1099511627776):VO x x=some ((),((true,()),())):=by have hw:aS x=wL bC x.2.1:=rfl;unfold VO;simp only [bq,ep,Bool.not_true,cond_false,Option.bind_some,beq_self_eq_true,MR x.2.1 (by omega)]
def ct (x:(Int×(List di)×Unit)):Nat:=1 + cL fk x.2.1
noncomputable def nE (x:(Int×(List di)×Unit)) (k:Int):(Int×(List di)×Unit):=(k,nM tY fk x.2.1 (k + 1),())
theorem BG (x:(Int×(List di)×Unit)):ct x<=100 * (aS x + 1):=by
 have hw:aS x=wL bC x.2.1:=rfl;have hc:ct x=1 + cL fk x.2.1:=rfl;have h1:=yy EZ x.2.1
 try dsimp only at *
 omega
def bL (x:((List R5)×Int×(List R3)×Int×Int×Int×Int×Int×(List R5)×Unit)):Nat:=x.1.length + x.2.2.1.length + x.2.2.2.2.2.2.2.2.1.length
def vW (x:((List R5)×Int×(List R3)×Int×Int×Int×Int×Int×(List R5)×Unit)):Prop:=x.1.length<=aV/\x.2.2.1.length<=aV/\x.2.2.2.2.2.2.2.2.1.length<=aV
def C5 (x:((List R5)×Int×(List R3)×Int×Int×Int×Int×Int×(List R5)×Unit)):Prop:=(∀ y∈x.1,l4 .u8 y.1)/\(∀ y∈x.2.2.2.2.2.2.2.2.1,l4 .u8 y.1)
theorem Qn (x:((List R5)×Int×(List R3)×Int×Int×Int×Int×Int×(List R5)×Unit)) (left:Int) (h0:0<=left) (h1:left<=1048576) (hb:vW x):VW x left=some ((),((Cm left (bL x),()),())):=by
 have hw:bL x=x.1.length + x.2.2.1.length + x.2.2.2.2.2.2.2.2.1.length:=rfl;unfold VW
 try dsimp only
 by_cases q0:((x.1.length:Nat):Int)<=left;rotate_left
 . rw [ni x.1 left (by omega) (by omega) (hb.1),a8 q0,a8 (by omega)]; rfl
 rw [ni x.1 left (by omega) (by omega) (hb.1),bu q0]; dsimp only [Option.bind_some]; rw [ay (by omega)]; dsimp only [cond_false];by_cases q1:((x.2.2.1.length:Nat):Int)<=(left - ((x.1.length:Nat):Int));rotate_left
 . rw [rX x.2.2.1 (left - ((x.1.length:Nat):Int)) (by omega) (by omega) (hb.2.1),a8 q1,a8 (by omega)]; rfl
 rw [rX x.2.2.1 (left - ((x.1.length:Nat):Int)) (by omega) (by omega) (hb.2.1),bu q1]; dsimp only [Option.bind_some]; rw [ay (by omega)]; dsimp only [cond_false];by_cases q2:((x.2.2.2.2.2.2.2.2.1.length:Nat):Int)<=((left - ((x.1.length:Nat):Int)) - ((x.2.2.1.length:Nat):Int));rotate_left
 . rw [ni x.2.2.2.2.2.2.2.2.1 ((left - ((x.1.length:Nat):Int)) - ((x.2.2.1.length:Nat):Int)) (by omega) (by omega) (hb.2.2),a8 q2,a8 (by omega)]; rfl
 rw [ni x.2.2.2.2.2.2.2.2.1 ((left - ((x.1.length:Nat):Int)) - ((x.2.2.1.length:Nat):Int)) (by omega) (by omega) (hb.2.2),bu q2]; dsimp only [Option.bind_some]; rw [ay (by omega)]; dsimp only [cond_false];rw [bu (by omega)];have e:(((left - ((x.1.length:Nat):Int)) - ((x.2.2.1.length:Nat):Int)) - ((x.2.2.2.2.2.2.2.2.1.length:Nat):Int))=left - ((bL x:Nat):Int):=by omega
 rw [e]
theorem toTask (x:((List R5)×Int×(List R3)×Int×Int×Int×Int×Int×(List R5)×Unit)) (h:bL x<=1048576):VU x=some ((),(x,())):=by have hw:bL x=x.1.length + x.2.2.1.length + x.2.2.2.2.2.2.2.2.1.length:=rfl;unfold VU;rw [Af x.1 (by omega)];rw [Cw x.2.2.1 (by omega)];rw [Af x.2.2.2.2.2.2.2.2.1 (by omega)];rfl
theorem PI (x:((List R5)×Int×(List R3)×Int×Int×Int×Int×Int×(List R5)×Unit)) (h:bL x<=1099511627776):VK x x=some ((),((true,()),())):=by have hw:bL x=x.1.length + x.2.2.1.length + x.2.2.2.2.2.2.2.2.1.length:=rfl;unfold VK;simp only [bq,ep,Bool.not_true,cond_false,Option.bind_some,beq_self_eq_true,Ab x.1 (by omega),zY x.2.2.1 (by omega),Ab x.2.2.2.2.2.2.2.2.1 (by omega)]
def fc (x:((List R5)×Int×(List R3)×Int×Int×Int×Int×Int×(List R5)×Unit)):Nat:=cL (fun _=>1) x.1 + 1 + cL (fun _=>1) x.2.2.1 + 1 + 1 + 1 + 1 + 1 + cL (fun _=>1) x.2.2.2.2.2.2.2.2.1
noncomputable def tQ (x:((List R5)×Int×(List R3)×Int×Int×Int×Int×Int×(List R5)×Unit)) (k:Int):((List R5)×Int×(List R3)×Int×Int×Int×Int×Int×(List R5)×Unit):=(nM rH (fun _=>1) x.1 k,(k + ((cL (fun _=>1) x.1:Nat):Int)),nM mkInt (fun _=>1) x.2.2.1 ((k + ((cL (fun _=>1) x.1:Nat):Int)) + 1),(((k + ((cL (fun _=>1) x.1:Nat):Int)) + 1) + ((cL (fun _=>1) x.2.2.1:Nat):Int)),((((k + ((cL (fun _=>1) x.1:Nat):Int)) + 1) + ((cL (fun _=>1) x.2.2.1:Nat):Int)) + 1),(((((k + ((cL (fun _=>1) x.1:Nat):Int)) + 1) + ((cL (fun _=>1) x.2.2.1:Nat):Int)) + 1) + 1),((((((k + ((cL (fun _=>1) x.1:Nat):Int)) + 1) + ((cL (fun _=>1) x.2.2.1:Nat):Int)) + 1) + 1) + 1),(((((((k + ((cL (fun _=>1) x.1:Nat):Int)) + 1) + ((cL (fun _=>1) x.2.2.1:Nat):Int)) + 1) + 1) + 1) + 1),nM rH (fun _=>1) x.2.2.2.2.2.2.2.2.1 ((((((((k + ((cL (fun _=>1) x.1:Nat):Int)) + 1) + ((cL (fun _=>1) x.2.2.1:Nat):Int)) + 1) + 1) + 1) + 1) + 1),())
theorem GC (x:((List R5)×Int×(List R3)×Int×Int×Int×Int×Int×(List R5)×Unit)):fc x<=100 * (bL x + 1):=by
 have hw:bL x=x.1.length + x.2.2.1.length + x.2.2.2.2.2.2.2.2.1.length:=rfl;have hc:fc x=cL (fun _=>1) x.1 + 1 + cL (fun _=>1) x.2.2.1 + 1 + 1 + 1 + 1 + 1 + cL (fun _=>1) x.2.2.2.2.2.2.2.2.1:=rfl;have h0:=jy x.1;have h2:=jy x.2.2.1;have h8:=jy x.2.2.2.2.2.2.2.2.1
 try dsimp only at *
 omega
theorem wx (xs:List pT) (hb:xs.length<=aV/\∀ y∈xs,mq y) (a:Int) (h0:0<=a) (h1:a<=1048576):Oi xs a 0=some (if ((cL aS xs:Nat):Int)<=a then .inl (xs,a - (cL aS xs:Nat),(xs.length:Int),()) else .inr (-1,())):=by
 have h:=aT (step:=fun (x:(List pT)×Int×Int×Unit)=>vZ x.1 x.2.1 x.2.2.1) xs (fun i (a:Int)=>(xs,a,((i:Nat):Int),())) (fun _ x (a:Int)=>bif decide ((aS x:Int)<=a) then Sum.inl (a - aS x) else .inr (.inr (-1,())))
  (fun a=> .inl (xs,a,(xs.length:Int),())) (fun _ a=>0<=a/\a<=1048576) (a0:=a) ⟨h0,h1⟩ (fun i x a hx ha=>by
    have hmem:=List.mem_of_getElem? hx;have hlt:=aj hx;show vZ xs a (i:Int)=_;unfold vZ;rw [aI hx,aC hx,aW _ hx,G4 x a ha.1 ha.2 (hb.2 x hmem),aO (by omega)];dsimp only [cond_true,Option.bind_some];by_cases q:((aS x:Nat):Int)<=a
    . rw [bu q,ay (by omega),decide_eq_true q]; rfl
    . rw [a8 q,decide_eq_false q]; rfl) (fun i x a a' hx ha hf=>by
    by_cases q:((aS x:Nat):Int)<=a
    . rw [decide_eq_true q] at hf;simp only [cond_true,Sum.inl.injEq] at hf;omega
    . rw [decide_eq_false q] at hf;simp at hf) (fun a ha=>by
    show vZ xs a (xs.length:Int)=_;unfold vZ;rw [ax rfl]; rfl)
 rw [rG _ _ _ _ _ _ h0] at h;refine Eq.trans h ?_;split <;> rfl
theorem yv (xs:List pT) (left:Int) (h0:0<=left) (h1:left<=1048576) (hb:xs.length<=aV/\∀ y∈xs,mq y):VE xs left=some ((),((Cm left (wL aS xs),()),())):=by
 have hw:wL aS xs=xs.length + cL aS xs:=rfl;unfold VE;dsimp only;rw [dG (s:=xs) (left:=left) (by omega) (by omega) hb.1];by_cases q:((xs.length:Nat):Int)<=left
 . rw [ay (by omega)];dsimp only [cond_false];rw [wx xs hb _ (by omega) (by omega)];by_cases q2:((cL aS xs:Nat):Int)<=left - (xs.length:Int)
   . rw [if_pos q2,bu (by omega)];dsimp only [Option.bind_some,Sum.elim_inl];have e:left - (xs.length:Int) - (cL aS xs:Nat)=left - ((wL aS xs:Nat):Int):=by omega
     rw [e]
   . rw [if_neg q2,a8 (by omega)]; rfl
 . rw [aD (by omega),a8 (by omega)]; rfl
theorem Ff (xs:List pT) (h:wL aS xs<=1048576):VS xs=some ((),((xs,()),())):=by
 have hb:aV=140737488355328:=rfl;have hw:wL aS xs=xs.length + cL aS xs:=rfl;unfold VS;dsimp only;rw [nY (by decide) (by omega),jo]
 have h:=aT (step:=fun (x:(List pT)×(List eS)×Int×Unit)=>uw x.1 x.2.1 x.2.2.1) xs (fun i (a:List pT)=>(xs,a ++ List.replicate (xs.length - i) d67,((i:Nat):Int),())) (fun _ x (a:List pT)=>Sum.inl (a ++ [x]))
  (fun a=> .inl (xs,a,(xs.length:Int),())) (fun i a=>a.length=i) (a0:=[]) rfl (fun i x a hx ha=>by
    have hlt:=aj hx;have hcm:=fo aS hx;show uw xs (a ++ List.replicate (xs.length - i) d67) (i:Int)=_;unfold uw;obtain ⟨q,hq⟩:∃ q,xs.length - i=q + 1:=⟨xs.length - i - 1,by omega⟩;have hq':xs.length - (i + 1)=q:=by omega
    rw [hq,List.replicate_succ,aI hx,aC hx,aW _ hx,IY x (by omega)];dsimp only [cond_true,Option.bind_some];simp only [eF ha,kj _ ha,eH ha,aO (show i<=aV by omega),hq',cond_true,List.append_assoc,List.singleton_append]) (fun i x a a' hx ha hf=>by
    simp only [Sum.inl.injEq] at hf;rw [<- hf,List.length_append,ha]; rfl) (fun a ha=>by
    show uw xs (a ++ List.replicate (xs.length - xs.length) d67) (xs.length:Int)=_;unfold uw;rw [ax rfl,Nat.sub_self,List.replicate_zero,List.append_nil]; rfl)
 rw [jI] at h;have h':NN xs (List.replicate xs.length d67) 0=_:=h;rw [h']; rfl
theorem Gc (xs:List eS) (h:wL aS xs<=1099511627776):Wg xs xs=some ((),((true,()),())):=by
 have hb:aV=140737488355328:=rfl;have hw:wL aS xs=xs.length + cL aS xs:=rfl;unfold Wg;rw [bq];have h:=aG (step:=fun (x:(List eS)×(List eS)×Int×Unit)=>vL x.1 x.2.1 x.2.2.1) xs (fun i (_:Unit)=>(xs,xs,((i:Nat):Int),())) (fun _ x _=>Sum.inl ()) (fun _=> .inl (xs,xs,(xs.length:Int),())) (a0:=()) (fun i x a hx=>by
  have hlt:=aj hx;have hcm:=fo aS hx;show vL xs xs (i:Int)=_;unfold vL;rw [aI hx,aC hx,aW _ hx,HW x (by omega),aO (by omega)]; rfl) (fun a=>by
  show vL xs xs (xs.length:Int)=_;unfold vL;rw [ax rfl]; rfl)
 rw [bV (fun _ a=>a)] at h;have h':N2 xs xs 0=_:=h;rw [h']; rfl
theorem BI (xs:List eS) (k:Int) (h1:1<=k) (h2:k + ((cL ct xs:Nat):Int)<=1099511627776) (h3:wL aS xs<=1099511627776):VQ xs k=some (((nM nE ct xs k,()),()),((k + ((cL ct xs:Nat):Int),()),())):=by
 have hb:aV=140737488355328:=rfl;have hwl:wL aS xs=xs.length + cL aS xs:=rfl;unfold VQ
 have h:=aT (step:=fun (x:(List eS)×Int×Int×Unit)=>vh x.1 x.2.1 x.2.2.1) xs (fun i (a:List eS×Int)=>(a.1 ++ xs.drop i,a.2,((i:Nat):Int),())) (fun _ x (a:List eS×Int)=>Sum.inl (a.1 ++ [nE x a.2],a.2 + ((ct x:Nat):Int)))
  (fun a=> .inl (a.1,a.2,(xs.length:Int),())) (fun i a=>a.1.length=i/\1<=a.2/\a.2 + ((cL ct (xs.drop i):Nat):Int)<=1099511627776) (a0:=([],k)) ⟨rfl,h1,h2⟩ (fun i x a hx ha=>by
    have hlt:=aj hx;have hcm:=fo aS hx;obtain ⟨hd,ha1,ha2⟩:=ha;rw [ed _ hx] at ha2;have hc:ct x=1 + cL fk x.2.1:=rfl;have hw:aS x=wL bC x.2.1:=rfl;have a0:ak .i64 a.2 1=a.2 + 1:=aL (by omega) (by omega);have m1:=Gd x.2.1 (a.2 + 1) (by omega) (by omega) (by omega);show vh (a.1 ++ xs.drop i) a.2 (i:Int)=_;unfold vh;have e:((a.2 + 1) + ((cL fk x.2.1:Nat):Int))=a.2 + ((ct x:Nat):Int):=by omega
    simp only [iw hx,lI hd,eF hd,eH hd,kj _ hd,aO (show i<=aV by omega),cond_true,Option.bind_some,a0,m1];rw [e,List.append_assoc]; rfl) (fun i x a a' hx ha hf=>by
    obtain ⟨hd,ha1,ha2⟩:=ha;rw [ed _ hx] at ha2;simp only [Sum.inl.injEq] at hf;subst hf;refine ⟨by rw [List.length_append,hd]; rfl,?_,?_⟩
    . show 1<=a.2 + ((ct x:Nat):Int); omega
    . show a.2 + ((ct x:Nat):Int) + _<=_; omega) (fun a ha=>by
    show vh (a.1 ++ xs.drop xs.length) a.2 (xs.length:Int)=_;unfold vh;rw [List.drop_length,List.append_nil,ax ha.1]; rfl)
 rw [mM nE ct] at h;have h':NV xs k 0=_:=h;rw [h']; rfl
theorem zF (xs:List nS) (hb:xs.length<=aV/\∀ y∈xs,vW y) (a:Int) (h0:0<=a) (h1:a<=1048576):Ov xs a 0=some (if ((cL bL xs:Nat):Int)<=a then .inl (xs,a - (cL bL xs:Nat),(xs.length:Int),()) else .inr (-1,())):=by
 have h:=aT (step:=fun (x:(List nS)×Int×Int×Unit)=>wI x.1 x.2.1 x.2.2.1) xs (fun i (a:Int)=>(xs,a,((i:Nat):Int),())) (fun _ x (a:Int)=>bif decide ((bL x:Int)<=a) then Sum.inl (a - bL x) else .inr (.inr (-1,())))
  (fun a=> .inl (xs,a,(xs.length:Int),())) (fun _ a=>0<=a/\a<=1048576) (a0:=a) ⟨h0,h1⟩ (fun i x a hx ha=>by
    have hmem:=List.mem_of_getElem? hx;have hlt:=aj hx;show wI xs a (i:Int)=_;unfold wI;rw [aI hx,aC hx,aW _ hx,Qn x a ha.1 ha.2 (hb.2 x hmem),aO (by omega)];dsimp only [cond_true,Option.bind_some];by_cases q:((bL x:Nat):Int)<=a
    . rw [bu q,ay (by omega),decide_eq_true q]; rfl
    . rw [a8 q,decide_eq_false q]; rfl) (fun i x a a' hx ha hf=>by
    by_cases q:((bL x:Nat):Int)<=a
    . rw [decide_eq_true q] at hf;simp only [cond_true,Sum.inl.injEq] at hf;omega
    . rw [decide_eq_false q] at hf;simp at hf) (fun a ha=>by
    show wI xs a (xs.length:Int)=_;unfold wI;rw [ax rfl]; rfl)
 rw [rG _ _ _ _ _ _ h0] at h;refine Eq.trans h ?_;split <;> rfl
theorem DJ (xs:List nS) (left:Int) (h0:0<=left) (h1:left<=1048576) (hb:xs.length<=aV/\∀ y∈xs,vW y):V7 xs left=some ((),((Cm left (wL bL xs),()),())):=by
 have hw:wL bL xs=xs.length + cL bL xs:=rfl;unfold V7;dsimp only;rw [dG (s:=xs) (left:=left) (by omega) (by omega) hb.1];by_cases q:((xs.length:Nat):Int)<=left
 . rw [ay (by omega)];dsimp only [cond_false];rw [zF xs hb _ (by omega) (by omega)];by_cases q2:((cL bL xs:Nat):Int)<=left - (xs.length:Int)
   . rw [if_pos q2,bu (by omega)];dsimp only [Option.bind_some,Sum.elim_inl];have e:left - (xs.length:Int) - (cL bL xs:Nat)=left - ((wL bL xs:Nat):Int):=by omega
     rw [e]
   . rw [if_neg q2,a8 (by omega)]; rfl
 . rw [aD (by omega),a8 (by omega)]; rfl
theorem K4 (xs:List nS) (h:wL bL xs<=1048576):Wd xs=some ((),((xs,()),())):=by
 have hb:aV=140737488355328:=rfl;have hw:wL bL xs=xs.length + cL bL xs:=rfl;unfold Wd;dsimp only;rw [nY (by decide) (by omega),jo]
 have h:=aT (step:=fun (x:(List nS)×(List iH)×Int×Unit)=>wU x.1 x.2.1 x.2.2.1) xs (fun i (a:List nS)=>(xs,a ++ List.replicate (xs.length - i) d64,((i:Nat):Int),())) (fun _ x (a:List nS)=>Sum.inl (a ++ [x]))
  (fun a=> .inl (xs,a,(xs.length:Int),())) (fun i a=>a.length=i) (a0:=[]) rfl (fun i x a hx ha=>by
    have hlt:=aj hx;have hcm:=fo bL hx;show wU xs (a ++ List.replicate (xs.length - i) d64) (i:Int)=_;unfold wU;obtain ⟨q,hq⟩:∃ q,xs.length - i=q + 1:=⟨xs.length - i - 1,by omega⟩;have hq':xs.length - (i + 1)=q:=by omega
    rw [hq,List.replicate_succ,aI hx,aC hx,aW _ hx,toTask x (by omega)];dsimp only [cond_true,Option.bind_some];simp only [eF ha,kj _ ha,eH ha,aO (show i<=aV by omega),hq',cond_true,List.append_assoc,List.singleton_append]) (fun i x a a' hx ha hf=>by
    simp only [Sum.inl.injEq] at hf;rw [<- hf,List.length_append,ha]; rfl) (fun a ha=>by
    show wU xs (a ++ List.replicate (xs.length - xs.length) d64) (xs.length:Int)=_;unfold wU;rw [ax rfl,Nat.sub_self,List.replicate_zero,List.append_nil]; rfl)
 rw [jI] at h;have h':OR xs (List.replicate xs.length d64) 0=_:=h;rw [h']; rfl
theorem MS (xs:List iH) (h:wL bL xs<=1099511627776):Wf xs xs=some ((),((true,()),())):=by
 have hb:aV=140737488355328:=rfl;have hw:wL bL xs=xs.length + cL bL xs:=rfl;unfold Wf;rw [bq];have h:=aG (step:=fun (x:(List iH)×(List iH)×Int×Unit)=>uo x.1 x.2.1 x.2.2.1) xs (fun i (_:Unit)=>(xs,xs,((i:Nat):Int),())) (fun _ x _=>Sum.inl ()) (fun _=> .inl (xs,xs,(xs.length:Int),())) (a0:=()) (fun i x a hx=>by
  have hlt:=aj hx;have hcm:=fo bL hx;show uo xs xs (i:Int)=_;unfold uo;rw [aI hx,aC hx,aW _ hx,PI x (by omega),aO (by omega)]; rfl) (fun a=>by
  show uo xs xs (xs.length:Int)=_;unfold uo;rw [ax rfl]; rfl)
 rw [bV (fun _ a=>a)] at h;have h':Oe xs xs 0=_:=h;rw [h']; rfl
theorem E3 (xs:List iH) (k:Int) (h1:1<=k) (h2:k + ((cL fc xs:Nat):Int)<=1099511627776) (h3:wL bL xs<=1099511627776):Wi xs k=some (((nM tQ fc xs k,()),()),((k + ((cL fc xs:Nat):Int),()),())):=by
 have hb:aV=140737488355328:=rfl;have hwl:wL bL xs=xs.length + cL bL xs:=rfl;unfold Wi
 have h:=aT (step:=fun (x:(List iH)×Int×Int×Unit)=>xh x.1 x.2.1 x.2.2.1) xs (fun i (a:List iH×Int)=>(a.1 ++ xs.drop i,a.2,((i:Nat):Int),())) (fun _ x (a:List iH×Int)=>Sum.inl (a.1 ++ [tQ x a.2],a.2 + ((fc x:Nat):Int)))
  (fun a=> .inl (a.1,a.2,(xs.length:Int),())) (fun i a=>a.1.length=i/\1<=a.2/\a.2 + ((cL fc (xs.drop i):Nat):Int)<=1099511627776) (a0:=([],k)) ⟨rfl,h1,h2⟩ (fun i x a hx ha=>by
    have hlt:=aj hx;have hcm:=fo bL hx;obtain ⟨hd,ha1,ha2⟩:=ha;rw [ed _ hx] at ha2;have hc:fc x=cL (fun _=>1) x.1 + 1 + cL (fun _=>1) x.2.2.1 + 1 + 1 + 1 + 1 + 1 + cL (fun _=>1) x.2.2.2.2.2.2.2.2.1:=rfl;have hw:bL x=x.1.length + x.2.2.1.length + x.2.2.2.2.2.2.2.2.1.length:=rfl;have m0:=rW x.1 a.2 (by omega) (by omega);have a1:ak .i64 (a.2 + ((cL (fun _=>1) x.1:Nat):Int)) 1=(a.2 + ((cL (fun _=>1) x.1:Nat):Int)) + 1:=aL (by omega) (by omega);have m2:=qP x.2.2.1 ((a.2 + ((cL (fun _=>1) x.1:Nat):Int)) + 1) (by omega) (by omega);have a3:ak .i64 (((a.2 + ((cL (fun _=>1) x.1:Nat):Int)) + 1) + ((cL (fun _=>1) x.2.2.1:Nat):Int)) 1=(((a.2 + ((cL (fun _=>1) x.1:Nat):Int)) + 1) + ((cL (fun _=>1) x.2.2.1:Nat):Int)) + 1:=aL (by omega) (by omega);have a4:ak .i64 ((((a.2 + ((cL (fun _=>1) x.1:Nat):Int)) + 1) + ((cL (fun _=>1) x.2.2.1:Nat):Int)) + 1) 1=((((a.2 + ((cL (fun _=>1) x.1:Nat):Int)) + 1) + ((cL (fun _=>1) x.2.2.1:Nat):Int)) + 1) + 1:=aL (by omega) (by omega);have a5:ak .i64 (((((a.2 + ((cL (fun _=>1) x.1:Nat):Int)) + 1) + ((cL (fun _=>1) x.2.2.1:Nat):Int)) + 1) + 1) 1=(((((a.2 + ((cL (fun _=>1) x.1:Nat):Int)) + 1) + ((cL (fun _=>1) x.2.2.1:Nat):Int)) + 1) + 1) + 1:=aL (by omega) (by omega);have a6:ak .i64 ((((((a.2 + ((cL (fun _=>1) x.1:Nat):Int)) + 1) + ((cL (fun _=>1) x.2.2.1:Nat):Int)) + 1) + 1) + 1) 1=((((((a.2 + ((cL (fun _=>1) x.1:Nat):Int)) + 1) + ((cL (fun _=>1) x.2.2.1:Nat):Int)) + 1) + 1) + 1) + 1:=aL (by omega) (by omega);have a7:ak .i64 (((((((a.2 + ((cL (fun _=>1) x.1:Nat):Int)) + 1) + ((cL (fun _=>1) x.2.2.1:Nat):Int)) + 1) + 1) + 1) + 1) 1=(((((((a.2 + ((cL (fun _=>1) x.1:Nat):Int)) + 1) + ((cL (fun _=>1) x.2.2.1:Nat):Int)) + 1) + 1) + 1) + 1) + 1:=aL (by omega) (by omega);have m8:=rW x.2.2.2.2.2.2.2.2.1 ((((((((a.2 + ((cL (fun _=>1) x.1:Nat):Int)) + 1) + ((cL (fun _=>1) x.2.2.1:Nat):Int)) + 1) + 1) + 1) + 1) + 1) (by omega) (by omega);show xh (a.1 ++ xs.drop i) a.2 (i:Int)=_;unfold xh;have e:(((((((((a.2 + ((cL (fun _=>1) x.1:Nat):Int)) + 1) + ((cL (fun _=>1) x.2.2.1:Nat):Int)) + 1) + 1) + 1) + 1) + 1) + ((cL (fun _=>1) x.2.2.2.2.2.2.2.2.1:Nat):Int))=a.2 + ((fc x:Nat):Int):=by omega
    simp only [iw hx,lI hd,eF hd,eH hd,kj _ hd,aO (show i<=aV by omega),cond_true,Option.bind_some,m0,a1,m2,a3,a4,a5,a6,a7,m8];rw [e,List.append_assoc]; rfl) (fun i x a a' hx ha hf=>by
    obtain ⟨hd,ha1,ha2⟩:=ha;rw [ed _ hx] at ha2;simp only [Sum.inl.injEq] at hf;subst hf;refine ⟨by rw [List.length_append,hd]; rfl,?_,?_⟩
    . show 1<=a.2 + ((fc x:Nat):Int); omega
    . show a.2 + ((fc x:Nat):Int) + _<=_; omega) (fun a ha=>by
    show xh (a.1 ++ xs.drop xs.length) a.2 (xs.length:Int)=_;unfold xh;rw [List.drop_length,List.append_nil,ax ha.1]; rfl)
 rw [mM tQ fc] at h;have h':No xs k 0=_:=h;rw [h']; rfl
def gm (x:((List pT)×Int×Int×(List nS)×Unit)):Nat:=wL aS x.1 + wL bL x.2.2.2.1
def zc (x:((List pT)×Int×Int×(List nS)×Unit)):Prop:=(x.1.length<=aV/\∀ y∈x.1,mq y)/\(x.2.2.2.1.length<=aV/\∀ y∈x.2.2.2.1,vW y)
def zQ (x:((List pT)×Int×Int×(List nS)×Unit)):Prop:=(∀ y∈x.1,A5 y)/\(∀ y∈x.2.2.2.1,C5 y)
theorem M9 (x:((List pT)×Int×Int×(List nS)×Unit)) (left:Int) (h0:0<=left) (h1:left<=1048576) (hb:zc x):g8 x left=some ((),((Cm left (gm x),()),())):=by
 have hw:gm x=wL aS x.1 + wL bL x.2.2.2.1:=rfl;unfold g8
 try dsimp only
 by_cases q0:((wL aS x.1:Nat):Int)<=left;rotate_left
 . rw [yv x.1 left (by omega) (by omega) (hb.1),a8 q0,a8 (by omega)]; rfl
 rw [yv x.1 left (by omega) (by omega) (hb.1),bu q0]; dsimp only [Option.bind_some]; rw [ay (by omega)]; dsimp only [cond_false];by_cases q1:((wL bL x.2.2.2.1:Nat):Int)<=(left - ((wL aS x.1:Nat):Int));rotate_left
 . rw [DJ x.2.2.2.1 (left - ((wL aS x.1:Nat):Int)) (by omega) (by omega) (hb.2),a8 q1,a8 (by omega)]; rfl
 rw [DJ x.2.2.2.1 (left - ((wL aS x.1:Nat):Int)) (by omega) (by omega) (hb.2),bu q1]; dsimp only [Option.bind_some]; rw [ay (by omega)]; dsimp only [cond_false];rw [bu (by omega)];have e:((left - ((wL aS x.1:Nat):Int)) - ((wL bL x.2.2.2.1:Nat):Int))=left - ((gm x:Nat):Int):=by omega
 rw [e]
theorem L4 (x:((List pT)×Int×Int×(List nS)×Unit)) (h:gm x<=1048576):g10 x=some ((),(x,())):=by have hw:gm x=wL aS x.1 + wL bL x.2.2.2.1:=rfl;unfold g10;rw [Ff x.1 (by omega)];rw [K4 x.2.2.2.1 (by omega)];rfl
theorem MU (x:((List pT)×Int×Int×(List nS)×Unit)) (h:gm x<=1099511627776):g12 x x=some ((),((true,()),())):=by have hw:gm x=wL aS x.1 + wL bL x.2.2.2.1:=rfl;unfold g12;simp only [bq,ep,Bool.not_true,cond_false,Option.bind_some,beq_self_eq_true,Gc x.1 (by omega),MS x.2.2.2.1 (by omega)]
def ow (x:((List pT)×Int×Int×(List nS)×Unit)):Nat:=cL ct x.1 + cL fc x.2.2.2.1
noncomputable def Ls (x:((List pT)×Int×Int×(List nS)×Unit)) (k:Int):((List pT)×Int×Int×(List nS)×Unit):=(nM nE ct x.1 k,x.2.1,x.2.2.1,nM tQ fc x.2.2.2.1 (k + ((cL ct x.1:Nat):Int)),())
theorem FV (x:((List pT)×Int×Int×(List nS)×Unit)):ow x<=100 * gm x:=by have hw:gm x=wL aS x.1 + wL bL x.2.2.2.1:=rfl;have hc:ow x=cL ct x.1 + cL fc x.2.2.2.1:=rfl;have h0:=yy BG x.1;have h3:=yy GC x.2.2.2.1;omega
theorem GN (x:((List pT)×Int×Int×(List nS)×Unit)) (k:Int) (h1:1<=k) (h2:k + ((ow x:Nat):Int)<=1099511627776) (h3:gm x<=1099511627776):VZ x k=some ((Ls x k,()),((k + ((ow x:Nat):Int),()),())):=by
 have hb:aV=140737488355328:=rfl;have hw:gm x=wL aS x.1 + wL bL x.2.2.2.1:=rfl;have hc:ow x=cL ct x.1 + cL fc x.2.2.2.1:=rfl;have m0:=BI x.1 k (by omega) (by omega) (by omega);have m1:=E3 x.2.2.2.1 (k + ((cL ct x.1:Nat):Int)) (by omega) (by omega) (by omega);unfold VZ;have e:((k + ((cL ct x.1:Nat):Int)) + ((cL fc x.2.2.2.1:Nat):Int))=k + ((ow x:Nat):Int):=by omega
 rw [m0]; dsimp only [Option.bind_some,cond_false];rw [m1]; dsimp only [Option.bind_some,cond_false];rw [e]
 try rfl
end Go.Av
