/- Part of a proof that the law FnExactPass answers true for every input: the printed functions of this program and their plain laws. No conditions beyond the statement. -/
import Derived.Test.YtbgoaopannojjaaGreatDoorP1
import Derived.Test.YtbgoaopannojjaaGreatDoorFw4
set_option maxRecDepth 100000
set_option maxHeartbeats 4000000
namespace Go.Av
theorem Gu:∀ (n:Nat) (t:Int) (s:List UInt8),0<=t->t < 10 ^ n->n<=18->s.length + n<=1000->∃ t' s',KL t s=some (.inl (t',s',()))/\s'.length<=s.length + n:=by
 intro n;have hbig:aT=140737488355328:=rfl;induction n with
 | zero =>
   intro t s h0 h1 h3 h2;refine ⟨t,s,?_,by omega⟩;have:t=0:=by simp at h1; omega
   subst this;exact aK _ (by show mX 0 s=_; unfold mX; rfl)
 | succ n ih =>
   intro t s h0 h1 h3 h2;by_cases ht:0 < t
   . have hp:t < 10 ^ n * 10:=by rw [Int.pow_succ] at h1; exact h1
     have hle:(10:Int) ^ n<=10 ^ 18:=by
      have hn:n<=18:=by omega
      exact_mod_cast (Nat.pow_le_pow_right (by decide) hn:10 ^ n<=10 ^ 18)
     have hle':(10:Int) ^ n<=1000000000000000000:=hle;have hq:l9 .i64 t 10=t / 10:=by unfold l9;rw [Int.tdiv_eq_ediv_of_nonneg h0];exact IntWalk.i64_in _ (by omega)
     have hc:(strOf [((bG .u8 (ai .i64 48 (fx t 10))),())]).length=1:=rfl;have hc2:(P5 (strOf [((bG .u8 (ai .i64 48 (fx t 10))),())]) s).length=1 + s.length:=by rw [<- hc]; exact List.length_append
     obtain ⟨t',s',e1,e2⟩:=ih (t / 10) (P5 (strOf [((bG .u8 (ai .i64 48 (fx t 10))),())]) s) (by omega) (by omega) (by omega) (by omega);refine ⟨t',s',aU _ (x':=(t / 10,P5 (strOf [((bG .u8 (ai .i64 48 (fx t 10))),())]) s,())) ?_ e1,by omega⟩;show mX t s=_;unfold mX;have hf:FQ (strOf [((bG .u8 (ai .i64 48 (fx t 10))),())]) s=true:=Nat.ble_eq_true_of_le (by omega);dsimp only;rw [aG ht,hq,hf];rfl
   . refine ⟨t,s,?_,by omega⟩;exact aK _ (by show mX t s=_; unfold mX; rw [ax ht]; rfl)
noncomputable def mt (k:Int):List UInt8:=match rT k with | some y=>y.2.1.1 | none=>[]
theorem text {k:Int} (h1:1<=k) (h2:k<=99999999999999999):rT k=some ((),((mt k,()),())):=by
 have hbig:aT=140737488355328:=rfl;obtain ⟨t',s',e1,e2⟩:=Gu 17 k [] (by omega) (by omega) (by decide) (by simp);have hr:rT k=some ((),((P5 [109] s',()),())):=by unfold rT;have hf:FQ [109] s'=true:=Nat.ble_eq_true_of_le (by simp at e2 ⊢; omega);have hle:bH k 0=false:=decide_eq_false (by omega);rw [hle,e1];dsimp only [cond_false,Option.bind_some,Sum.elim_inl];rw [hf]; rfl
 have hm:mt k=P5 [109] s':=by unfold mt; rw [hr]
 rw [hm]; exact hr
def bp (x:((List UInt8)×Int×Int×Unit)):Nat:=x.1.length
def wW (x:((List UInt8)×Int×Int×Unit)):Prop:=x.1.length<=aT
theorem QB (x:((List UInt8)×Int×Int×Unit)) (left:Int) (h0:0<=left) (h1:left<=1048576) (hb:wW x):LA x left=some ((),((CH left (bp x),()),())):=by
 have hw:bp x=x.1.length:=rfl;unfold LA
 try dsimp only
 by_cases q0:((x.1.length:Nat):Int)<=left;rotate_left
 . rw [dD (s:=x.1) (left:=left) (by omega) (by omega) hb]; rw [aG (by omega),a8 (by omega)]; rfl
 rw [dD (s:=x.1) (left:=left) (by omega) (by omega) hb]; rw [ax (by omega)]; dsimp only [cond_false];rw [bC (by omega)];have e:(left - ((x.1.length:Nat):Int))=left - ((bp x:Nat):Int):=by omega
 rw [e]
theorem R6 (x:((List UInt8)×Int×Int×Unit)) (h:bp x<=1048576):Nb x=some ((),(x,())):=by have hw:bp x=x.1.length:=rfl;unfold Nb;rfl
theorem Qj (x:((List UInt8)×Int×Int×Unit)) (h:bp x<=1099511627776):Nk x x=some ((),((true,()),())):=by have hw:bp x=x.1.length:=rfl;unfold Nk;simp only [bg,cW,Bool.not_true,cond_false,Option.bind_some,beq_self_eq_true]
def bb (x:((List UInt8)×Int×Int×Unit)):Nat:=1 + 1 + 1
noncomputable def fX (x:((List UInt8)×Int×Int×Unit)) (k:Int):((List UInt8)×Int×Int×Unit):=(mt k,(k + 1),((k + 1) + 1),())
theorem Fy (x:((List UInt8)×Int×Int×Unit)):bb x<=100 * (bp x + 1):=by
 have hw:bp x=x.1.length:=rfl;have hc:bb x=1 + 1 + 1:=rfl
 try dsimp only at *
 omega
theorem sP (x:(List R3)) (left:Int) (h0:0<=left) (h1:left<=1048576) (hb:x.length<=aT):F3 x left=some ((),((CH left x.length,()),())):=by
 unfold F3;dsimp only;by_cases q:((x.length:Nat):Int)<=left
 . rw [dD (s:=x) (left:=left) (by omega) (by omega) hb,ax (by omega),bC q]; rfl
 . rw [dD (s:=x) (left:=left) (by omega) (by omega) hb,aG (by omega),a8 q]; rfl
theorem Dz (xs:List R3) (h:xs.length<=1048576):Fz xs=some ((),((xs,()),())):=by
 have hb:aT=140737488355328:=rfl;unfold Fz;dsimp only;rw [pF (by decide) (by omega),jt]
 have h:=aI (step:=fun (x:(List R3)×(List R3)×Int×Unit)=>nZ x.1 x.2.1 x.2.2.1) xs (fun i (a:List R3)=>(xs,a ++ List.replicate (xs.length - i) d3,((i:Nat):Int),())) (fun _ x (a:List R3)=>Sum.inl (a ++ [x]))
  (fun a=> .inl (xs,a,(xs.length:Int),())) (fun i a=>a.length=i) (a0:=[]) rfl (fun i x a hx ha=>by
    have hlt:=aj hx;show nZ xs (a ++ List.replicate (xs.length - i) d3) (i:Int)=_;unfold nZ;obtain ⟨q,hq⟩:∃ q,xs.length - i=q + 1:=⟨xs.length - i - 1,by omega⟩;have hq':xs.length - (i + 1)=q:=by omega
    rw [hq,List.replicate_succ,aD hx,az hx,eN ha,aV _ hx,eH ha,aJ (by omega),hq'];dsimp only [cond_true];rw [List.append_assoc]; rfl) (fun i x a a' hx ha hf=>by
    simp only [Sum.inl.injEq] at hf;rw [<- hf,List.length_append,ha]; rfl) (fun a ha=>by
    show nZ xs (a ++ List.replicate (xs.length - xs.length) d3) (xs.length:Int)=_;unfold nZ;rw [aw rfl,Nat.sub_self,List.replicate_zero,List.append_nil]; rfl)
 rw [fJ] at h;have h':Ll xs (List.replicate xs.length d3) 0=_:=h;rw [h']; rfl
theorem DN (xs:List R3) (h:xs.length<=1099511627776):Gs xs xs=some ((),((true,()),())):=by
 have hb:aT=140737488355328:=rfl;unfold Gs;rw [bg];have h:=aH (step:=fun (x:(List R3)×(List R3)×Int×Unit)=>pL x.1 x.2.1 x.2.2.1) xs (fun i (_:Unit)=>(xs,xs,((i:Nat):Int),())) (fun _ x _=>Sum.inl ()) (fun _=> .inl (xs,xs,(xs.length:Int),())) (a0:=()) (fun i x a hx=>by
  have hlt:=aj hx;show pL xs xs (i:Int)=_;unfold pL;rw [aD hx,az hx,aV _ hx,bg,aJ (by omega)]; rfl) (fun a=>by
  show pL xs xs (xs.length:Int)=_;unfold pL;rw [aw rfl]; rfl)
 rw [bY (fun _ a=>a)] at h;have h':H2 xs xs 0=_:=h;rw [h']; rfl
def mkInt (x:Int×Unit) (k:Int):Int×Unit:=(k,())
theorem xF (xs:List R3) (k:Int) (h1:1<=k) (h2:k + ((cL (fun _=>1) xs:Nat):Int)<=1099511627776):S0 xs k=some (((fw mkInt (fun _=>1) xs k,()),()),((k + ((cL (fun _=>1) xs:Nat):Int),()),())):=by
 have hb:aT=140737488355328:=rfl;have hlen:xs.length<=1099511627776:=by rw [kE] at h2; omega
 unfold S0
 have h:=aI (step:=fun (x:(List R3)×Int×Int×Unit)=>uO x.1 x.2.1 x.2.2.1) xs (fun i (a:List R3×Int)=>(a.1 ++ xs.drop i,a.2,((i:Nat):Int),())) (fun _ x (a:List R3×Int)=>Sum.inl (a.1 ++ [mkInt x a.2],a.2 + ((1:Nat):Int)))
  (fun a=> .inl (a.1,a.2,(xs.length:Int),())) (fun i a=>a.1.length=i/\1<=a.2/\a.2 + ((cL (fun _=>1) (xs.drop i):Nat):Int)<=1099511627776) (a0:=([],k)) ⟨rfl,h1,h2⟩ (fun i x a hx ha=>by
    have hlt:=aj hx;obtain ⟨hd,ha1,ha2⟩:=ha;rw [cR _ hx] at ha2;have a1:ai .i64 a.2 1=a.2 + 1:=ay (by omega) (by omega);show uO (a.1 ++ xs.drop i) a.2 (i:Int)=_;unfold uO;rw [iM hx,ln hd,eN hd,eH hd,aJ (by omega),a1];dsimp only [cond_true];rw [List.append_assoc]; rfl) (fun i x a a' hx ha hf=>by
    obtain ⟨hd,ha1,ha2⟩:=ha;rw [cR _ hx] at ha2;simp only [Sum.inl.injEq] at hf;subst hf;refine ⟨by rw [List.length_append,hd]; rfl,?_,?_⟩
    . show 1<=a.2 + ((1:Nat):Int); omega
    . show a.2 + ((1:Nat):Int) + _<=_; omega) (fun a ha=>by
    show uO (a.1 ++ xs.drop xs.length) a.2 (xs.length:Int)=_;unfold uO;rw [List.drop_length,List.append_nil,aw ha.1]; rfl)
 rw [mI mkInt (fun _=>1)] at h;have h':PY xs k 0=_:=h;rw [h']; rfl
theorem uU (xs:List R3) (k:Int) (h1:1<=k) (h2:k + ((cL (fun _=>1) xs:Nat):Int)<=1099511627776):SY (fw mkInt (fun _=>1) xs k) k=some ((),((k + ((cL (fun _=>1) xs:Nat):Int),()),())):=by
 have hb:aT=140737488355328:=rfl;have hlen:xs.length<=1099511627776:=by rw [kE] at h2; omega
 unfold SY
 have h:=aI (step:=fun (x:(List R3)×Int×Int×Unit)=>vu x.1 x.2.1 x.2.2.1) xs (fun i (a:Int)=>(fw mkInt (fun _=>1) xs k,a,((i:Nat):Int),())) (fun _ x (a:Int)=>Sum.inl (a + ((1:Nat):Int)))
  (fun a=> .inl (fw mkInt (fun _=>1) xs k,a,(xs.length:Int),())) (fun i a=>a=k + ((cL (fun _=>1) (xs.take i):Nat):Int)) (a0:=k) (by simp [cL]) (fun i x a hx ha=>by
    have hlt:=aj hx;have hs:=jK (fun _=>1) xs i;have hy:=iD mkInt (fun _=>1) xs k i x hx;rw [cR _ hx] at hs;rw [<- ha] at hy;have a1:ai .i64 a 1=a + 1:=ay (by omega) (by omega);show vu (fw mkInt (fun _=>1) xs k) a (i:Int)=_;unfold vu;rw [aD hy,az hy,aV _ hy,aJ (by omega),a1];simp only [mkInt,bg,Bool.not_true,cond_true,cond_false]; rfl) (fun i x a a' hx ha hf=>by
    simp only [Sum.inl.injEq] at hf;rw [lL _ hx];omega) (fun a ha=>by
    show vu (fw mkInt (fun _=>1) xs k) a (xs.length:Int)=_;unfold vu;rw [aw (ke _ _ _ _)]; rfl)
 rw [kg (fun _=>1)] at h;have h':Pz (fw mkInt (fun _=>1) xs k) k 0=_:=h;rw [h']; rfl
def eF (x:(Int×Int×(List R3)×(List R3)×Unit)):Nat:=x.2.2.1.length + x.2.2.2.1.length
def HX (x:(Int×Int×(List R3)×(List R3)×Unit)):Prop:=x.2.2.1.length<=aT/\x.2.2.2.1.length<=aT
theorem H4 (x:(Int×Int×(List R3)×(List R3)×Unit)) (left:Int) (h0:0<=left) (h1:left<=1048576) (hb:HX x):MS x left=some ((),((CH left (eF x),()),())):=by
 have hw:eF x=x.2.2.1.length + x.2.2.2.1.length:=rfl;unfold MS
 try dsimp only
 by_cases q0:((x.2.2.1.length:Nat):Int)<=left;rotate_left
 . rw [sP x.2.2.1 left (by omega) (by omega) (hb.1),a8 q0,a8 (by omega)]; rfl
 rw [sP x.2.2.1 left (by omega) (by omega) (hb.1),bC q0]; dsimp only [Option.bind_some]; rw [ax (by omega)]; dsimp only [cond_false];by_cases q1:((x.2.2.2.1.length:Nat):Int)<=(left - ((x.2.2.1.length:Nat):Int));rotate_left
 . rw [sP x.2.2.2.1 (left - ((x.2.2.1.length:Nat):Int)) (by omega) (by omega) (hb.2),a8 q1,a8 (by omega)]; rfl
 rw [sP x.2.2.2.1 (left - ((x.2.2.1.length:Nat):Int)) (by omega) (by omega) (hb.2),bC q1]; dsimp only [Option.bind_some]; rw [ax (by omega)]; dsimp only [cond_false];rw [bC (by omega)];have e:((left - ((x.2.2.1.length:Nat):Int)) - ((x.2.2.2.1.length:Nat):Int))=left - ((eF x:Nat):Int):=by omega
 rw [e]
theorem toRing (x:(Int×Int×(List R3)×(List R3)×Unit)) (h:eF x<=1048576):MD x=some ((),(x,())):=by have hw:eF x=x.2.2.1.length + x.2.2.2.1.length:=rfl;unfold MD;rw [Dz x.2.2.1 (by omega)];rw [Dz x.2.2.2.1 (by omega)];rfl
theorem Sf (x:(Int×Int×(List R3)×(List R3)×Unit)) (h:eF x<=1099511627776):NQ x x=some ((),((true,()),())):=by have hw:eF x=x.2.2.1.length + x.2.2.2.1.length:=rfl;unfold NQ;simp only [bg,cW,Bool.not_true,cond_false,Option.bind_some,beq_self_eq_true,DN x.2.2.1 (by omega),DN x.2.2.2.1 (by omega)]
theorem nu (x:(List R5)) (left:Int) (h0:0<=left) (h1:left<=1048576) (hb:x.length<=aT):Hk x left=some ((),((CH left x.length,()),())):=by
 unfold Hk;dsimp only;by_cases q:((x.length:Nat):Int)<=left
 . rw [dD (s:=x) (left:=left) (by omega) (by omega) hb,ax (by omega),bC q]; rfl
 . rw [dD (s:=x) (left:=left) (by omega) (by omega) hb,aG (by omega),a8 q]; rfl
theorem At (xs:List R5) (h:xs.length<=1048576):g17 xs=some ((),((xs,()),())):=by
 have hb:aT=140737488355328:=rfl;unfold g17;dsimp only;rw [pF (by decide) (by omega),jt]
 have h:=aI (step:=fun (x:(List R5)×(List R5)×Int×Unit)=>xm x.1 x.2.1 x.2.2.1) xs (fun i (a:List R5)=>(xs,a ++ List.replicate (xs.length - i) d5,((i:Nat):Int),())) (fun _ x (a:List R5)=>Sum.inl (a ++ [x]))
  (fun a=> .inl (xs,a,(xs.length:Int),())) (fun i a=>a.length=i) (a0:=[]) rfl (fun i x a hx ha=>by
    have hlt:=aj hx;show xm xs (a ++ List.replicate (xs.length - i) d5) (i:Int)=_;unfold xm;obtain ⟨q,hq⟩:∃ q,xs.length - i=q + 1:=⟨xs.length - i - 1,by omega⟩;have hq':xs.length - (i + 1)=q:=by omega
    rw [hq,List.replicate_succ,aD hx,az hx,eN ha,aV _ hx,eH ha,aJ (by omega),hq'];dsimp only [cond_true];rw [List.append_assoc]; rfl) (fun i x a a' hx ha hf=>by
    simp only [Sum.inl.injEq] at hf;rw [<- hf,List.length_append,ha]; rfl) (fun a ha=>by
    show xm xs (a ++ List.replicate (xs.length - xs.length) d5) (xs.length:Int)=_;unfold xm;rw [aw rfl,Nat.sub_self,List.replicate_zero,List.append_nil]; rfl)
 rw [fJ] at h;have h':OS xs (List.replicate xs.length d5) 0=_:=h;rw [h']; rfl
theorem zZ (xs:List R5) (h:xs.length<=1099511627776):g19 xs xs=some ((),((true,()),())):=by
 have hb:aT=140737488355328:=rfl;unfold g19;rw [bg];have h:=aH (step:=fun (x:(List R5)×(List R5)×Int×Unit)=>wH x.1 x.2.1 x.2.2.1) xs (fun i (_:Unit)=>(xs,xs,((i:Nat):Int),())) (fun _ x _=>Sum.inl ()) (fun _=> .inl (xs,xs,(xs.length:Int),())) (a0:=()) (fun i x a hx=>by
  have hlt:=aj hx;show wH xs xs (i:Int)=_;unfold wH;rw [aD hx,az hx,aV _ hx,bg,aJ (by omega)]; rfl) (fun a=>by
  show wH xs xs (xs.length:Int)=_;unfold wH;rw [aw rfl]; rfl)
 rw [bY (fun _ a=>a)] at h;have h':OW xs xs 0=_:=h;rw [h']; rfl
def gV (x:Int×Unit) (k:Int):Int×Unit:=(bG .u8 k,())
theorem sj (xs:List R5) (k:Int) (h1:1<=k) (h2:k + ((cL (fun _=>1) xs:Nat):Int)<=1099511627776):g20 xs k=some (((fw gV (fun _=>1) xs k,()),()),((k + ((cL (fun _=>1) xs:Nat):Int),()),())):=by
 have hb:aT=140737488355328:=rfl;have hlen:xs.length<=1099511627776:=by rw [kE] at h2; omega
 unfold g20
 have h:=aI (step:=fun (x:(List R5)×Int×Int×Unit)=>xr x.1 x.2.1 x.2.2.1) xs (fun i (a:List R5×Int)=>(a.1 ++ xs.drop i,a.2,((i:Nat):Int),())) (fun _ x (a:List R5×Int)=>Sum.inl (a.1 ++ [gV x a.2],a.2 + ((1:Nat):Int)))
  (fun a=> .inl (a.1,a.2,(xs.length:Int),())) (fun i a=>a.1.length=i/\1<=a.2/\a.2 + ((cL (fun _=>1) (xs.drop i):Nat):Int)<=1099511627776) (a0:=([],k)) ⟨rfl,h1,h2⟩ (fun i x a hx ha=>by
    have hlt:=aj hx;obtain ⟨hd,ha1,ha2⟩:=ha;rw [cR _ hx] at ha2;have a1:ai .i64 a.2 1=a.2 + 1:=ay (by omega) (by omega);show xr (a.1 ++ xs.drop i) a.2 (i:Int)=_;unfold xr;rw [iM hx,ln hd,eN hd,eH hd,aJ (by omega),a1];dsimp only [cond_true];rw [List.append_assoc]; rfl) (fun i x a a' hx ha hf=>by
    obtain ⟨hd,ha1,ha2⟩:=ha;rw [cR _ hx] at ha2;simp only [Sum.inl.injEq] at hf;subst hf;refine ⟨by rw [List.length_append,hd]; rfl,?_,?_⟩
    . show 1<=a.2 + ((1:Nat):Int); omega
    . show a.2 + ((1:Nat):Int) + _<=_; omega) (fun a ha=>by
    show xr (a.1 ++ xs.drop xs.length) a.2 (xs.length:Int)=_;unfold xr;rw [List.drop_length,List.append_nil,aw ha.1]; rfl)
 rw [mI gV (fun _=>1)] at h;have h':Pq xs k 0=_:=h;rw [h']; rfl
theorem sD (xs:List R5) (k:Int) (h1:1<=k) (h2:k + ((cL (fun _=>1) xs:Nat):Int)<=1099511627776):SX (fw gV (fun _=>1) xs k) k=some ((),((k + ((cL (fun _=>1) xs:Nat):Int),()),())):=by
 have hb:aT=140737488355328:=rfl;have hlen:xs.length<=1099511627776:=by rw [kE] at h2; omega
 unfold SX
 have h:=aI (step:=fun (x:(List R5)×Int×Int×Unit)=>wI x.1 x.2.1 x.2.2.1) xs (fun i (a:Int)=>(fw gV (fun _=>1) xs k,a,((i:Nat):Int),())) (fun _ x (a:Int)=>Sum.inl (a + ((1:Nat):Int)))
  (fun a=> .inl (fw gV (fun _=>1) xs k,a,(xs.length:Int),())) (fun i a=>a=k + ((cL (fun _=>1) (xs.take i):Nat):Int)) (a0:=k) (by simp [cL]) (fun i x a hx ha=>by
    have hlt:=aj hx;have hs:=jK (fun _=>1) xs i;have hy:=iD gV (fun _=>1) xs k i x hx;rw [cR _ hx] at hs;rw [<- ha] at hy;have a1:ai .i64 a 1=a + 1:=ay (by omega) (by omega);show wI (fw gV (fun _=>1) xs k) a (i:Int)=_;unfold wI;rw [aD hy,az hy,aV _ hy,aJ (by omega),a1];simp only [gV,bg,Bool.not_true,cond_true,cond_false]; rfl) (fun i x a a' hx ha hf=>by
    simp only [Sum.inl.injEq] at hf;rw [lL _ hx];omega) (fun a ha=>by
    show wI (fw gV (fun _=>1) xs k) a (xs.length:Int)=_;unfold wI;rw [aw (ke _ _ _ _)]; rfl)
 rw [kg (fun _=>1)] at h;have h':OV (fw gV (fun _=>1) xs k) k 0=_:=h;rw [h']; rfl
def bF (x:((List UInt8)×(List UInt8)×(List R5)×Unit)):Nat:=x.1.length + x.2.1.length + x.2.2.1.length
def wo (x:((List UInt8)×(List UInt8)×(List R5)×Unit)):Prop:=x.1.length<=aT/\x.2.1.length<=aT/\x.2.2.1.length<=aT
def JL (x:((List UInt8)×(List UInt8)×(List R5)×Unit)):Prop:=(∀ y∈x.2.2.1,l3 .u8 y.1)
theorem Ri (x:((List UInt8)×(List UInt8)×(List R5)×Unit)) (left:Int) (h0:0<=left) (h1:left<=1048576) (hb:wo x):Ma x left=some ((),((CH left (bF x),()),())):=by
 have hw:bF x=x.1.length + x.2.1.length + x.2.2.1.length:=rfl;unfold Ma
 try dsimp only
 by_cases q0:((x.1.length:Nat):Int)<=left;rotate_left
 . rw [dD (s:=x.1) (left:=left) (by omega) (by omega) hb.1]; rw [aG (by omega),a8 (by omega)]; rfl
 rw [dD (s:=x.1) (left:=left) (by omega) (by omega) hb.1]; rw [ax (by omega)]; dsimp only [cond_false];by_cases q1:((x.2.1.length:Nat):Int)<=(left - ((x.1.length:Nat):Int));rotate_left
 . rw [dD (s:=x.2.1) (left:=(left - ((x.1.length:Nat):Int))) (by omega) (by omega) hb.2.1]; rw [aG (by omega),a8 (by omega)]; rfl
 rw [dD (s:=x.2.1) (left:=(left - ((x.1.length:Nat):Int))) (by omega) (by omega) hb.2.1]; rw [ax (by omega)]; dsimp only [cond_false];by_cases q2:((x.2.2.1.length:Nat):Int)<=((left - ((x.1.length:Nat):Int)) - ((x.2.1.length:Nat):Int));rotate_left
 . rw [nu x.2.2.1 ((left - ((x.1.length:Nat):Int)) - ((x.2.1.length:Nat):Int)) (by omega) (by omega) (hb.2.2),a8 q2,a8 (by omega)]; rfl
 rw [nu x.2.2.1 ((left - ((x.1.length:Nat):Int)) - ((x.2.1.length:Nat):Int)) (by omega) (by omega) (hb.2.2),bC q2]; dsimp only [Option.bind_some]; rw [ax (by omega)]; dsimp only [cond_false];rw [bC (by omega)];have e:(((left - ((x.1.length:Nat):Int)) - ((x.2.1.length:Nat):Int)) - ((x.2.2.1.length:Nat):Int))=left - ((bF x:Nat):Int):=by omega
 rw [e]
theorem Qo (x:((List UInt8)×(List UInt8)×(List R5)×Unit)) (h:bF x<=1048576):Nv x=some ((),(x,())):=by have hw:bF x=x.1.length + x.2.1.length + x.2.2.1.length:=rfl;unfold Nv;rw [At x.2.2.1 (by omega)];rfl
theorem RU (x:((List UInt8)×(List UInt8)×(List R5)×Unit)) (h:bF x<=1099511627776):NC x x=some ((),((true,()),())):=by have hw:bF x=x.1.length + x.2.1.length + x.2.2.1.length:=rfl;unfold NC;simp only [bg,cW,Bool.not_true,cond_false,Option.bind_some,beq_self_eq_true,zZ x.2.2.1 (by omega)]
def bP (x:((List UInt8)×(List UInt8)×(List R5)×Unit)):Nat:=1 + 1 + cL (fun _=>1) x.2.2.1
noncomputable def gh (x:((List UInt8)×(List UInt8)×(List R5)×Unit)) (k:Int):((List UInt8)×(List UInt8)×(List R5)×Unit):=(mt k,mt (k + 1),fw gV (fun _=>1) x.2.2.1 ((k + 1) + 1),())
theorem Gz (x:((List UInt8)×(List UInt8)×(List R5)×Unit)):bP x<=100 * (bF x + 1):=by
 have hw:bF x=x.1.length + x.2.1.length + x.2.2.1.length:=rfl;have hc:bP x=1 + 1 + cL (fun _=>1) x.2.2.1:=rfl;have h2:=kE x.2.2.1
 try dsimp only at *
 omega
theorem zB (xs:List mg) (hb:xs.length<=aT/\∀ y∈xs,wW y) (a:Int) (h0:0<=a) (h1:a<=1048576):K9 xs a 0=some (if ((cL bp xs:Nat):Int)<=a then .inl (xs,a - (cL bp xs:Nat),(xs.length:Int),()) else .inr (-1,())):=by
 have h:=aI (step:=fun (x:(List mg)×Int×Int×Unit)=>pG x.1 x.2.1 x.2.2.1) xs (fun i (a:Int)=>(xs,a,((i:Nat):Int),())) (fun _ x (a:Int)=>bif decide ((bp x:Int)<=a) then Sum.inl (a - bp x) else .inr (.inr (-1,())))
  (fun a=> .inl (xs,a,(xs.length:Int),())) (fun _ a=>0<=a/\a<=1048576) (a0:=a) ⟨h0,h1⟩ (fun i x a hx ha=>by
    have hmem:=List.mem_of_getElem? hx;have hlt:=aj hx;show pG xs a (i:Int)=_;unfold pG;rw [aD hx,az hx,aV _ hx,QB x a ha.1 ha.2 (hb.2 x hmem),aJ (by omega)];dsimp only [cond_true,Option.bind_some];by_cases q:((bp x:Nat):Int)<=a
    . rw [bC q,ax (by omega),decide_eq_true q]; rfl
    . rw [a8 q,decide_eq_false q]; rfl) (fun i x a a' hx ha hf=>by
    by_cases q:((bp x:Nat):Int)<=a
    . rw [decide_eq_true q] at hf;simp only [cond_true,Sum.inl.injEq] at hf;omega
    . rw [decide_eq_false q] at hf;simp at hf) (fun a ha=>by
    show pG xs a (xs.length:Int)=_;unfold pG;rw [aw rfl]; rfl)
 rw [rS _ _ _ _ _ _ h0] at h;refine Eq.trans h ?_;split <;> rfl
theorem D8 (xs:List mg) (left:Int) (h0:0<=left) (h1:left<=1048576) (hb:xs.length<=aT/\∀ y∈xs,wW y):Oj xs left=some ((),((CH left (wL bp xs),()),())):=by
 have hw:wL bp xs=xs.length + cL bp xs:=rfl;unfold Oj;dsimp only;rw [dD (s:=xs) (left:=left) (by omega) (by omega) hb.1];by_cases q:((xs.length:Nat):Int)<=left
 . rw [ax (by omega)];dsimp only [cond_false];rw [zB xs hb _ (by omega) (by omega)];by_cases q2:((cL bp xs:Nat):Int)<=left - (xs.length:Int)
   . rw [if_pos q2,bC (by omega)];dsimp only [Option.bind_some,Sum.elim_inl];have e:left - (xs.length:Int) - (cL bp xs:Nat)=left - ((wL bp xs:Nat):Int):=by omega
     rw [e]
   . rw [if_neg q2,a8 (by omega)]; rfl
 . rw [aG (by omega),a8 (by omega)]; rfl
theorem M5 (xs:List mg) (h:wL bp xs<=1048576):Og xs=some ((),((xs,()),())):=by
 have hb:aT=140737488355328:=rfl;have hw:wL bp xs=xs.length + cL bp xs:=rfl;unfold Og;dsimp only;rw [pF (by decide) (by omega),jt]
 have h:=aI (step:=fun (x:(List mg)×(List gr)×Int×Unit)=>oH x.1 x.2.1 x.2.2.1) xs (fun i (a:List mg)=>(xs,a ++ List.replicate (xs.length - i) d95,((i:Nat):Int),())) (fun _ x (a:List mg)=>Sum.inl (a ++ [x]))
  (fun a=> .inl (xs,a,(xs.length:Int),())) (fun i a=>a.length=i) (a0:=[]) rfl (fun i x a hx ha=>by
    have hlt:=aj hx;have hcm:=dw bp hx;show oH xs (a ++ List.replicate (xs.length - i) d95) (i:Int)=_;unfold oH;obtain ⟨q,hq⟩:∃ q,xs.length - i=q + 1:=⟨xs.length - i - 1,by omega⟩;have hq':xs.length - (i + 1)=q:=by omega
    rw [hq,List.replicate_succ,aD hx,az hx,aV _ hx,R6 x (by omega)];dsimp only [cond_true,Option.bind_some];simp only [eN ha,kC _ ha,eH ha,aJ (show i<=aT by omega),hq',cond_true,List.append_assoc,List.singleton_append]) (fun i x a a' hx ha hf=>by
    simp only [Sum.inl.injEq] at hf;rw [<- hf,List.length_append,ha]; rfl) (fun a ha=>by
    show oH xs (a ++ List.replicate (xs.length - xs.length) d95) (xs.length:Int)=_;unfold oH;rw [aw rfl,Nat.sub_self,List.replicate_zero,List.append_nil]; rfl)
 rw [fJ] at h;have h':Hz xs (List.replicate xs.length d95) 0=_:=h;rw [h']; rfl
theorem MT (xs:List gr) (h:wL bp xs<=1099511627776):LM xs xs=some ((),((true,()),())):=by
 have hb:aT=140737488355328:=rfl;have hw:wL bp xs=xs.length + cL bp xs:=rfl;unfold LM;rw [bg];have h:=aH (step:=fun (x:(List gr)×(List gr)×Int×Unit)=>pJ x.1 x.2.1 x.2.2.1) xs (fun i (_:Unit)=>(xs,xs,((i:Nat):Int),())) (fun _ x _=>Sum.inl ()) (fun _=> .inl (xs,xs,(xs.length:Int),())) (a0:=()) (fun i x a hx=>by
  have hlt:=aj hx;have hcm:=dw bp hx;show pJ xs xs (i:Int)=_;unfold pJ;rw [aD hx,az hx,aV _ hx,Qj x (by omega),aJ (by omega)]; rfl) (fun a=>by
  show pJ xs xs (xs.length:Int)=_;unfold pJ;rw [aw rfl]; rfl)
 rw [bY (fun _ a=>a)] at h;have h':J0 xs xs 0=_:=h;rw [h']; rfl
theorem Gn (xs:List gr) (k:Int) (h1:1<=k) (h2:k + ((cL bb xs:Nat):Int)<=1099511627776) (h3:wL bp xs<=1099511627776):Mb xs k=some (((fw fX bb xs k,()),()),((k + ((cL bb xs:Nat):Int),()),())):=by
 have hb:aT=140737488355328:=rfl;have hwl:wL bp xs=xs.length + cL bp xs:=rfl;unfold Mb
 have h:=aI (step:=fun (x:(List gr)×Int×Int×Unit)=>oU x.1 x.2.1 x.2.2.1) xs (fun i (a:List gr×Int)=>(a.1 ++ xs.drop i,a.2,((i:Nat):Int),())) (fun _ x (a:List gr×Int)=>Sum.inl (a.1 ++ [fX x a.2],a.2 + ((bb x:Nat):Int)))
  (fun a=> .inl (a.1,a.2,(xs.length:Int),())) (fun i a=>a.1.length=i/\1<=a.2/\a.2 + ((cL bb (xs.drop i):Nat):Int)<=1099511627776) (a0:=([],k)) ⟨rfl,h1,h2⟩ (fun i x a hx ha=>by
    have hlt:=aj hx;have hcm:=dw bp hx;obtain ⟨hd,ha1,ha2⟩:=ha;rw [cR _ hx] at ha2;have hc:bb x=1 + 1 + 1:=rfl;have hw:bp x=x.1.length:=rfl;have a0:ai .i64 a.2 1=a.2 + 1:=ay (by omega) (by omega);have a1:ai .i64 (a.2 + 1) 1=(a.2 + 1) + 1:=ay (by omega) (by omega);have a2:ai .i64 ((a.2 + 1) + 1) 1=((a.2 + 1) + 1) + 1:=ay (by omega) (by omega);show oU (a.1 ++ xs.drop i) a.2 (i:Int)=_;unfold oU;have e:(((a.2 + 1) + 1) + 1)=a.2 + ((bb x:Nat):Int):=by omega
    simp only [iM hx,ln hd,eN hd,eH hd,kC _ hd,aJ (show i<=aT by omega),cond_true,Option.bind_some,a0,text (k:=a.2) (by omega) (by omega),a1,a2];rw [e,List.append_assoc]; rfl) (fun i x a a' hx ha hf=>by
    obtain ⟨hd,ha1,ha2⟩:=ha;rw [cR _ hx] at ha2;simp only [Sum.inl.injEq] at hf;subst hf;refine ⟨by rw [List.length_append,hd]; rfl,?_,?_⟩
    . show 1<=a.2 + ((bb x:Nat):Int); omega
    . show a.2 + ((bb x:Nat):Int) + _<=_; omega) (fun a ha=>by
    show oU (a.1 ++ xs.drop xs.length) a.2 (xs.length:Int)=_;unfold oU;rw [List.drop_length,List.append_nil,aw ha.1]; rfl)
 rw [mI fX bb] at h;have h':J6 xs k 0=_:=h;rw [h']; rfl
theorem FZ (xs:List gr) (k:Int) (h1:1<=k) (h2:k + ((cL bb xs:Nat):Int)<=1099511627776) (h3:wL bp xs<=1099511627776):Lw (fw fX bb xs k) k=some ((),((k + ((cL bb xs:Nat):Int),()),())):=by
 have hb:aT=140737488355328:=rfl;have hwl:wL bp xs=xs.length + cL bp xs:=rfl;unfold Lw
 have h:=aI (step:=fun (x:(List gr)×Int×Int×Unit)=>nX x.1 x.2.1 x.2.2.1) xs (fun i (a:Int)=>(fw fX bb xs k,a,((i:Nat):Int),())) (fun _ x (a:Int)=>Sum.inl (a + ((bb x:Nat):Int)))
  (fun a=> .inl (fw fX bb xs k,a,(xs.length:Int),())) (fun i a=>a=k + ((cL bb (xs.take i):Nat):Int)) (a0:=k) (by simp [cL]) (fun i x a hx ha=>by
    have hlt:=aj hx;have hcm:=dw bp hx;have hs:=jK bb xs i;have hy:=iD fX bb xs k i x hx;rw [cR _ hx] at hs;rw [<- ha] at hy;have hc:bb x=1 + 1 + 1:=rfl;have hw:bp x=x.1.length:=rfl;have a0:ai .i64 a 1=a + 1:=ay (by omega) (by omega);have a1:ai .i64 (a + 1) 1=(a + 1) + 1:=ay (by omega) (by omega);have a2:ai .i64 ((a + 1) + 1) 1=((a + 1) + 1) + 1:=ay (by omega) (by omega);show nX (fw fX bb xs k) a (i:Int)=_;unfold nX;have e:(((a + 1) + 1) + 1)=a + ((bb x:Nat):Int):=by omega
    simp only [aD hy,az hy,aV _ hy,aJ (show i<=aT by omega),fX,cond_true,cond_false,Option.bind_some,cW,bg,Bool.not_true,a0,text (k:=a) (by omega) (by omega),a1,a2];rw [e]) (fun i x a a' hx ha hf=>by
    simp only [Sum.inl.injEq] at hf;rw [lL _ hx];omega) (fun a ha=>by
    show nX (fw fX bb xs k) a (xs.length:Int)=_;unfold nX;rw [aw (ke _ _ _ _)]; rfl)
 rw [kg bb] at h;have h':KY (fw fX bb xs k) k 0=_:=h;rw [h']; rfl
theorem zx (xs:List lT) (hb:xs.length<=aT/\∀ y∈xs,wo y) (a:Int) (h0:0<=a) (h1:a<=1048576):JS xs a 0=some (if ((cL bF xs:Nat):Int)<=a then .inl (xs,a - (cL bF xs:Nat),(xs.length:Int),()) else .inr (-1,())):=by
 have h:=aI (step:=fun (x:(List lT)×Int×Int×Unit)=>ob x.1 x.2.1 x.2.2.1) xs (fun i (a:Int)=>(xs,a,((i:Nat):Int),())) (fun _ x (a:Int)=>bif decide ((bF x:Int)<=a) then Sum.inl (a - bF x) else .inr (.inr (-1,())))
  (fun a=> .inl (xs,a,(xs.length:Int),())) (fun _ a=>0<=a/\a<=1048576) (a0:=a) ⟨h0,h1⟩ (fun i x a hx ha=>by
    have hmem:=List.mem_of_getElem? hx;have hlt:=aj hx;show ob xs a (i:Int)=_;unfold ob;rw [aD hx,az hx,aV _ hx,Ri x a ha.1 ha.2 (hb.2 x hmem),aJ (by omega)];dsimp only [cond_true,Option.bind_some];by_cases q:((bF x:Nat):Int)<=a
    . rw [bC q,ax (by omega),decide_eq_true q]; rfl
    . rw [a8 q,decide_eq_false q]; rfl) (fun i x a a' hx ha hf=>by
    by_cases q:((bF x:Nat):Int)<=a
    . rw [decide_eq_true q] at hf;simp only [cond_true,Sum.inl.injEq] at hf;omega
    . rw [decide_eq_false q] at hf;simp at hf) (fun a ha=>by
    show ob xs a (xs.length:Int)=_;unfold ob;rw [aw rfl]; rfl)
 rw [rS _ _ _ _ _ _ h0] at h;refine Eq.trans h ?_;split <;> rfl
theorem EA (xs:List lT) (left:Int) (h0:0<=left) (h1:left<=1048576) (hb:xs.length<=aT/\∀ y∈xs,wo y):Nd xs left=some ((),((CH left (wL bF xs),()),())):=by
 have hw:wL bF xs=xs.length + cL bF xs:=rfl;unfold Nd;dsimp only;rw [dD (s:=xs) (left:=left) (by omega) (by omega) hb.1];by_cases q:((xs.length:Nat):Int)<=left
 . rw [ax (by omega)];dsimp only [cond_false];rw [zx xs hb _ (by omega) (by omega)];by_cases q2:((cL bF xs:Nat):Int)<=left - (xs.length:Int)
   . rw [if_pos q2,bC (by omega)];dsimp only [Option.bind_some,Sum.elim_inl];have e:left - (xs.length:Int) - (cL bF xs:Nat)=left - ((wL bF xs:Nat):Int):=by omega
     rw [e]
   . rw [if_neg q2,a8 (by omega)]; rfl
 . rw [aG (by omega),a8 (by omega)]; rfl
theorem Nq (xs:List lT) (h:wL bF xs<=1048576):Mf xs=some ((),((xs,()),())):=by
 have hb:aT=140737488355328:=rfl;have hw:wL bF xs=xs.length + cL bF xs:=rfl;unfold Mf;dsimp only;rw [pF (by decide) (by omega),jt]
 have h:=aI (step:=fun (x:(List lT)×(List cu)×Int×Unit)=>oZ x.1 x.2.1 x.2.2.1) xs (fun i (a:List lT)=>(xs,a ++ List.replicate (xs.length - i) d166,((i:Nat):Int),())) (fun _ x (a:List lT)=>Sum.inl (a ++ [x]))
  (fun a=> .inl (xs,a,(xs.length:Int),())) (fun i a=>a.length=i) (a0:=[]) rfl (fun i x a hx ha=>by
    have hlt:=aj hx;have hcm:=dw bF hx;show oZ xs (a ++ List.replicate (xs.length - i) d166) (i:Int)=_;unfold oZ;obtain ⟨q,hq⟩:∃ q,xs.length - i=q + 1:=⟨xs.length - i - 1,by omega⟩;have hq':xs.length - (i + 1)=q:=by omega
    rw [hq,List.replicate_succ,aD hx,az hx,aV _ hx,Qo x (by omega)];dsimp only [cond_true,Option.bind_some];simp only [eN ha,kC _ ha,eH ha,aJ (show i<=aT by omega),hq',cond_true,List.append_assoc,List.singleton_append]) (fun i x a a' hx ha hf=>by
    simp only [Sum.inl.injEq] at hf;rw [<- hf,List.length_append,ha]; rfl) (fun a ha=>by
    show oZ xs (a ++ List.replicate (xs.length - xs.length) d166) (xs.length:Int)=_;unfold oZ;rw [aw rfl,Nat.sub_self,List.replicate_zero,List.append_nil]; rfl)
 rw [fJ] at h;have h':Jf xs (List.replicate xs.length d166) 0=_:=h;rw [h']; rfl
theorem LP (xs:List cu) (h:wL bF xs<=1099511627776):Mw xs xs=some ((),((true,()),())):=by
 have hb:aT=140737488355328:=rfl;have hw:wL bF xs=xs.length + cL bF xs:=rfl;unfold Mw;rw [bg];have h:=aH (step:=fun (x:(List cu)×(List cu)×Int×Unit)=>nS x.1 x.2.1 x.2.2.1) xs (fun i (_:Unit)=>(xs,xs,((i:Nat):Int),())) (fun _ x _=>Sum.inl ()) (fun _=> .inl (xs,xs,(xs.length:Int),())) (a0:=()) (fun i x a hx=>by
  have hlt:=aj hx;have hcm:=dw bF hx;show nS xs xs (i:Int)=_;unfold nS;rw [aD hx,az hx,aV _ hx,RU x (by omega),aJ (by omega)]; rfl) (fun a=>by
  show nS xs xs (xs.length:Int)=_;unfold nS;rw [aw rfl]; rfl)
 rw [bY (fun _ a=>a)] at h;have h':IG xs xs 0=_:=h;rw [h']; rfl
theorem GA (xs:List cu) (k:Int) (h1:1<=k) (h2:k + ((cL bP xs:Nat):Int)<=1099511627776) (h3:wL bF xs<=1099511627776):Od xs k=some (((fw gh bP xs k,()),()),((k + ((cL bP xs:Nat):Int),()),())):=by
 have hb:aT=140737488355328:=rfl;have hwl:wL bF xs=xs.length + cL bF xs:=rfl;unfold Od
 have h:=aI (step:=fun (x:(List cu)×Int×Int×Unit)=>pD x.1 x.2.1 x.2.2.1) xs (fun i (a:List cu×Int)=>(a.1 ++ xs.drop i,a.2,((i:Nat):Int),())) (fun _ x (a:List cu×Int)=>Sum.inl (a.1 ++ [gh x a.2],a.2 + ((bP x:Nat):Int)))
  (fun a=> .inl (a.1,a.2,(xs.length:Int),())) (fun i a=>a.1.length=i/\1<=a.2/\a.2 + ((cL bP (xs.drop i):Nat):Int)<=1099511627776) (a0:=([],k)) ⟨rfl,h1,h2⟩ (fun i x a hx ha=>by
    have hlt:=aj hx;have hcm:=dw bF hx;obtain ⟨hd,ha1,ha2⟩:=ha;rw [cR _ hx] at ha2;have hc:bP x=1 + 1 + cL (fun _=>1) x.2.2.1:=rfl;have hw:bF x=x.1.length + x.2.1.length + x.2.2.1.length:=rfl;have a0:ai .i64 a.2 1=a.2 + 1:=ay (by omega) (by omega);have a1:ai .i64 (a.2 + 1) 1=(a.2 + 1) + 1:=ay (by omega) (by omega);have m2:=sj x.2.2.1 ((a.2 + 1) + 1) (by omega) (by omega);show pD (a.1 ++ xs.drop i) a.2 (i:Int)=_;unfold pD;have e:(((a.2 + 1) + 1) + ((cL (fun _=>1) x.2.2.1:Nat):Int))=a.2 + ((bP x:Nat):Int):=by omega
    simp only [iM hx,ln hd,eN hd,eH hd,kC _ hd,aJ (show i<=aT by omega),cond_true,Option.bind_some,a0,text (k:=a.2) (by omega) (by omega),a1,text (k:=(a.2 + 1)) (by omega) (by omega),m2];rw [e,List.append_assoc]; rfl) (fun i x a a' hx ha hf=>by
    obtain ⟨hd,ha1,ha2⟩:=ha;rw [cR _ hx] at ha2;simp only [Sum.inl.injEq] at hf;subst hf;refine ⟨by rw [List.length_append,hd]; rfl,?_,?_⟩
    . show 1<=a.2 + ((bP x:Nat):Int); omega
    . show a.2 + ((bP x:Nat):Int) + _<=_; omega) (fun a ha=>by
    show pD (a.1 ++ xs.drop xs.length) a.2 (xs.length:Int)=_;unfold pD;rw [List.drop_length,List.append_nil,aw ha.1]; rfl)
 rw [mI gh bP] at h;have h':HD xs k 0=_:=h;rw [h']; rfl
theorem GJ (xs:List cu) (k:Int) (h1:1<=k) (h2:k + ((cL bP xs:Nat):Int)<=1099511627776) (h3:wL bF xs<=1099511627776):Mj (fw gh bP xs k) k=some ((),((k + ((cL bP xs:Nat):Int),()),())):=by
 have hb:aT=140737488355328:=rfl;have hwl:wL bF xs=xs.length + cL bF xs:=rfl;unfold Mj
 have h:=aI (step:=fun (x:(List cu)×Int×Int×Unit)=>pO x.1 x.2.1 x.2.2.1) xs (fun i (a:Int)=>(fw gh bP xs k,a,((i:Nat):Int),())) (fun _ x (a:Int)=>Sum.inl (a + ((bP x:Nat):Int)))
  (fun a=> .inl (fw gh bP xs k,a,(xs.length:Int),())) (fun i a=>a=k + ((cL bP (xs.take i):Nat):Int)) (a0:=k) (by simp [cL]) (fun i x a hx ha=>by
    have hlt:=aj hx;have hcm:=dw bF hx;have hs:=jK bP xs i;have hy:=iD gh bP xs k i x hx;rw [cR _ hx] at hs;rw [<- ha] at hy;have hc:bP x=1 + 1 + cL (fun _=>1) x.2.2.1:=rfl;have hw:bF x=x.1.length + x.2.1.length + x.2.2.1.length:=rfl;have a0:ai .i64 a 1=a + 1:=ay (by omega) (by omega);have a1:ai .i64 (a + 1) 1=(a + 1) + 1:=ay (by omega) (by omega);have m2:=sD x.2.2.1 ((a + 1) + 1) (by omega) (by omega);have n2:au (((a + 1) + 1) + ((cL (fun _=>1) x.2.2.1:Nat):Int)) 0=false:=ax (by omega);show pO (fw gh bP xs k) a (i:Int)=_;unfold pO;have e:(((a + 1) + 1) + ((cL (fun _=>1) x.2.2.1:Nat):Int))=a + ((bP x:Nat):Int):=by omega
    simp only [aD hy,az hy,aV _ hy,aJ (show i<=aT by omega),gh,cond_true,cond_false,Option.bind_some,cW,bg,Bool.not_true,a0,text (k:=a) (by omega) (by omega),a1,text (k:=(a + 1)) (by omega) (by omega),m2,n2];rw [e]) (fun i x a a' hx ha hf=>by
    simp only [Sum.inl.injEq] at hf;rw [lL _ hx];omega) (fun a ha=>by
    show pO (fw gh bP xs k) a (xs.length:Int)=_;unfold pO;rw [aw (ke _ _ _ _)]; rfl)
 rw [kg bP] at h;have h':KD (fw gh bP xs k) k 0=_:=h;rw [h']; rfl
def bo (x:((List UInt8)×Int×Int×Int×Int×(List gr)×Int×Int×(List R3)×(List R3)×(List cu)×Unit)):Nat:=x.1.length + wL bp x.2.2.2.2.2.1 + eF (x.2.2.2.2.2.2.1,x.2.2.2.2.2.2.2.1,x.2.2.2.2.2.2.2.2.1,x.2.2.2.2.2.2.2.2.2.1,()) + wL bF x.2.2.2.2.2.2.2.2.2.2.1
def uT (x:((List UInt8)×Int×Int×Int×Int×(List gr)×Int×Int×(List R3)×(List R3)×(List cu)×Unit)):Prop:=x.1.length<=aT/\(x.2.2.2.2.2.1.length<=aT/\∀ y∈x.2.2.2.2.2.1,wW y)/\HX (x.2.2.2.2.2.2.1,x.2.2.2.2.2.2.2.1,x.2.2.2.2.2.2.2.2.1,x.2.2.2.2.2.2.2.2.2.1,())/\(x.2.2.2.2.2.2.2.2.2.2.1.length<=aT/\∀ y∈x.2.2.2.2.2.2.2.2.2.2.1,wo y)
def JU (x:((List UInt8)×Int×Int×Int×Int×(List gr)×Int×Int×(List R3)×(List R3)×(List cu)×Unit)):Prop:=(∀ y∈x.2.2.2.2.2.2.2.2.2.2.1,JL y)
theorem RN (x:((List UInt8)×Int×Int×Int×Int×(List gr)×Int×Int×(List R3)×(List R3)×(List cu)×Unit)) (left:Int) (h0:0<=left) (h1:left<=1048576) (hb:uT x):MV x left=some ((),((CH left (bo x),()),())):=by
 have hw:bo x=x.1.length + wL bp x.2.2.2.2.2.1 + eF (x.2.2.2.2.2.2.1,x.2.2.2.2.2.2.2.1,x.2.2.2.2.2.2.2.2.1,x.2.2.2.2.2.2.2.2.2.1,()) + wL bF x.2.2.2.2.2.2.2.2.2.2.1:=rfl;unfold MV
 try dsimp only
 by_cases q0:((x.1.length:Nat):Int)<=left;rotate_left
 . rw [dD (s:=x.1) (left:=left) (by omega) (by omega) hb.1]; rw [aG (by omega),a8 (by omega)]; rfl
 rw [dD (s:=x.1) (left:=left) (by omega) (by omega) hb.1]; rw [ax (by omega)]; dsimp only [cond_false];by_cases q1:((wL bp x.2.2.2.2.2.1:Nat):Int)<=(left - ((x.1.length:Nat):Int));rotate_left
 . rw [D8 x.2.2.2.2.2.1 (left - ((x.1.length:Nat):Int)) (by omega) (by omega) (hb.2.1),a8 q1,a8 (by omega)]; rfl
 rw [D8 x.2.2.2.2.2.1 (left - ((x.1.length:Nat):Int)) (by omega) (by omega) (hb.2.1),bC q1]; dsimp only [Option.bind_some]; rw [ax (by omega)]; dsimp only [cond_false];by_cases q2:((eF (x.2.2.2.2.2.2.1,x.2.2.2.2.2.2.2.1,x.2.2.2.2.2.2.2.2.1,x.2.2.2.2.2.2.2.2.2.1,()):Nat):Int)<=((left - ((x.1.length:Nat):Int)) - ((wL bp x.2.2.2.2.2.1:Nat):Int));rotate_left
 . rw [H4 (x.2.2.2.2.2.2.1,x.2.2.2.2.2.2.2.1,x.2.2.2.2.2.2.2.2.1,x.2.2.2.2.2.2.2.2.2.1,()) ((left - ((x.1.length:Nat):Int)) - ((wL bp x.2.2.2.2.2.1:Nat):Int)) (by omega) (by omega) (hb.2.2.1),a8 q2,a8 (by omega)]; rfl
 rw [H4 (x.2.2.2.2.2.2.1,x.2.2.2.2.2.2.2.1,x.2.2.2.2.2.2.2.2.1,x.2.2.2.2.2.2.2.2.2.1,()) ((left - ((x.1.length:Nat):Int)) - ((wL bp x.2.2.2.2.2.1:Nat):Int)) (by omega) (by omega) (hb.2.2.1),bC q2]; dsimp only [Option.bind_some]; rw [ax (by omega)]; dsimp only [cond_false];by_cases q3:((wL bF x.2.2.2.2.2.2.2.2.2.2.1:Nat):Int)<=(((left - ((x.1.length:Nat):Int)) - ((wL bp x.2.2.2.2.2.1:Nat):Int)) - ((eF (x.2.2.2.2.2.2.1,x.2.2.2.2.2.2.2.1,x.2.2.2.2.2.2.2.2.1,x.2.2.2.2.2.2.2.2.2.1,()):Nat):Int));rotate_left
 . rw [EA x.2.2.2.2.2.2.2.2.2.2.1 (((left - ((x.1.length:Nat):Int)) - ((wL bp x.2.2.2.2.2.1:Nat):Int)) - ((eF (x.2.2.2.2.2.2.1,x.2.2.2.2.2.2.2.1,x.2.2.2.2.2.2.2.2.1,x.2.2.2.2.2.2.2.2.2.1,()):Nat):Int)) (by omega) (by omega) (hb.2.2.2),a8 q3,a8 (by omega)]; rfl
 rw [EA x.2.2.2.2.2.2.2.2.2.2.1 (((left - ((x.1.length:Nat):Int)) - ((wL bp x.2.2.2.2.2.1:Nat):Int)) - ((eF (x.2.2.2.2.2.2.1,x.2.2.2.2.2.2.2.1,x.2.2.2.2.2.2.2.2.1,x.2.2.2.2.2.2.2.2.2.1,()):Nat):Int)) (by omega) (by omega) (hb.2.2.2),bC q3]; dsimp only [Option.bind_some]; rw [ax (by omega)]; dsimp only [cond_false];rw [bC (by omega)];have e:((((left - ((x.1.length:Nat):Int)) - ((wL bp x.2.2.2.2.2.1:Nat):Int)) - ((eF (x.2.2.2.2.2.2.1,x.2.2.2.2.2.2.2.1,x.2.2.2.2.2.2.2.2.1,x.2.2.2.2.2.2.2.2.2.1,()):Nat):Int)) - ((wL bF x.2.2.2.2.2.2.2.2.2.2.1:Nat):Int))=left - ((bo x:Nat):Int):=by omega
 rw [e]
theorem RB (x:((List UInt8)×Int×Int×Int×Int×(List gr)×Int×Int×(List R3)×(List R3)×(List cu)×Unit)) (h:bo x<=1048576):MP x=some ((),(x,())):=by have hw:bo x=x.1.length + wL bp x.2.2.2.2.2.1 + eF (x.2.2.2.2.2.2.1,x.2.2.2.2.2.2.2.1,x.2.2.2.2.2.2.2.2.1,x.2.2.2.2.2.2.2.2.2.1,()) + wL bF x.2.2.2.2.2.2.2.2.2.2.1:=rfl;unfold MP;rw [M5 x.2.2.2.2.2.1 (by omega)];rw [toRing (x.2.2.2.2.2.2.1,x.2.2.2.2.2.2.2.1,x.2.2.2.2.2.2.2.2.1,x.2.2.2.2.2.2.2.2.2.1,()) (by omega)];rw [Nq x.2.2.2.2.2.2.2.2.2.2.1 (by omega)];rfl
theorem Sa (x:((List UInt8)×Int×Int×Int×Int×(List gr)×Int×Int×(List R3)×(List R3)×(List cu)×Unit)) (h:bo x<=1099511627776):Oc x x=some ((),((true,()),())):=by have hw:bo x=x.1.length + wL bp x.2.2.2.2.2.1 + eF (x.2.2.2.2.2.2.1,x.2.2.2.2.2.2.2.1,x.2.2.2.2.2.2.2.2.1,x.2.2.2.2.2.2.2.2.2.1,()) + wL bF x.2.2.2.2.2.2.2.2.2.2.1:=rfl;unfold Oc;simp only [bg,cW,Bool.not_true,cond_false,Option.bind_some,beq_self_eq_true,MT x.2.2.2.2.2.1 (by omega),Sf (x.2.2.2.2.2.2.1,x.2.2.2.2.2.2.2.1,x.2.2.2.2.2.2.2.2.1,x.2.2.2.2.2.2.2.2.2.1,()) (by omega),LP x.2.2.2.2.2.2.2.2.2.2.1 (by omega)]
def bR (x:((List UInt8)×Int×Int×Int×Int×(List gr)×Int×Int×(List R3)×(List R3)×(List cu)×Unit)):Nat:=1 + 1 + 1 + 1 + 1 + cL bb x.2.2.2.2.2.1 + 1 + 1 + cL (fun _=>1) x.2.2.2.2.2.2.2.2.1 + cL (fun _=>1) x.2.2.2.2.2.2.2.2.2.1 + cL bP x.2.2.2.2.2.2.2.2.2.2.1
noncomputable def fU (x:((List UInt8)×Int×Int×Int×Int×(List gr)×Int×Int×(List R3)×(List R3)×(List cu)×Unit)) (k:Int):((List UInt8)×Int×Int×Int×Int×(List gr)×Int×Int×(List R3)×(List R3)×(List cu)×Unit):=(mt k,(k + 1),((k + 1) + 1),(((k + 1) + 1) + 1),((((k + 1) + 1) + 1) + 1),fw fX bb x.2.2.2.2.2.1 (((((k + 1) + 1) + 1) + 1) + 1),((((((k + 1) + 1) + 1) + 1) + 1) + ((cL bb x.2.2.2.2.2.1:Nat):Int)),(((((((k + 1) + 1) + 1) + 1) + 1) + ((cL bb x.2.2.2.2.2.1:Nat):Int)) + 1),fw mkInt (fun _=>1) x.2.2.2.2.2.2.2.2.1 ((((((((k + 1) + 1) + 1) + 1) + 1) + ((cL bb x.2.2.2.2.2.1:Nat):Int)) + 1) + 1),fw mkInt (fun _=>1) x.2.2.2.2.2.2.2.2.2.1 (((((((((k + 1) + 1) + 1) + 1) + 1) + ((cL bb x.2.2.2.2.2.1:Nat):Int)) + 1) + 1) + ((cL (fun _=>1) x.2.2.2.2.2.2.2.2.1:Nat):Int)),fw gh bP x.2.2.2.2.2.2.2.2.2.2.1 ((((((((((k + 1) + 1) + 1) + 1) + 1) + ((cL bb x.2.2.2.2.2.1:Nat):Int)) + 1) + 1) + ((cL (fun _=>1) x.2.2.2.2.2.2.2.2.1:Nat):Int)) + ((cL (fun _=>1) x.2.2.2.2.2.2.2.2.2.1:Nat):Int)),())
theorem GG (x:((List UInt8)×Int×Int×Int×Int×(List gr)×Int×Int×(List R3)×(List R3)×(List cu)×Unit)):bR x<=100 * (bo x + 1):=by
 have hw:bo x=x.1.length + wL bp x.2.2.2.2.2.1 + eF (x.2.2.2.2.2.2.1,x.2.2.2.2.2.2.2.1,x.2.2.2.2.2.2.2.2.1,x.2.2.2.2.2.2.2.2.2.1,()) + wL bF x.2.2.2.2.2.2.2.2.2.2.1:=rfl;have hc:bR x=1 + 1 + 1 + 1 + 1 + cL bb x.2.2.2.2.2.1 + 1 + 1 + cL (fun _=>1) x.2.2.2.2.2.2.2.2.1 + cL (fun _=>1) x.2.2.2.2.2.2.2.2.2.1 + cL bP x.2.2.2.2.2.2.2.2.2.2.1:=rfl;have hw6:eF (x.2.2.2.2.2.2.1,x.2.2.2.2.2.2.2.1,x.2.2.2.2.2.2.2.2.1,x.2.2.2.2.2.2.2.2.2.1,())=(x.2.2.2.2.2.2.1,x.2.2.2.2.2.2.2.1,x.2.2.2.2.2.2.2.2.1,x.2.2.2.2.2.2.2.2.2.1,()).2.2.1.length + (x.2.2.2.2.2.2.1,x.2.2.2.2.2.2.2.1,x.2.2.2.2.2.2.2.2.1,x.2.2.2.2.2.2.2.2.2.1,()).2.2.2.1.length:=rfl;have h5:=yI Fy x.2.2.2.2.2.1;have h8:=kE x.2.2.2.2.2.2.2.2.1;have h9:=kE x.2.2.2.2.2.2.2.2.2.1;have h10:=yI Gz x.2.2.2.2.2.2.2.2.2.2.1
 try dsimp only at *
 omega
theorem zT (xs:List gL) (hb:xs.length<=aT/\∀ y∈xs,uT y) (a:Int) (h0:0<=a) (h1:a<=1048576):Kr xs a 0=some (if ((cL bo xs:Nat):Int)<=a then .inl (xs,a - (cL bo xs:Nat),(xs.length:Int),()) else .inr (-1,())):=by
 have h:=aI (step:=fun (x:(List gL)×Int×Int×Unit)=>pZ x.1 x.2.1 x.2.2.1) xs (fun i (a:Int)=>(xs,a,((i:Nat):Int),())) (fun _ x (a:Int)=>bif decide ((bo x:Int)<=a) then Sum.inl (a - bo x) else .inr (.inr (-1,())))
  (fun a=> .inl (xs,a,(xs.length:Int),())) (fun _ a=>0<=a/\a<=1048576) (a0:=a) ⟨h0,h1⟩ (fun i x a hx ha=>by
    have hmem:=List.mem_of_getElem? hx;have hlt:=aj hx;show pZ xs a (i:Int)=_;unfold pZ;rw [aD hx,az hx,aV _ hx,RN x a ha.1 ha.2 (hb.2 x hmem),aJ (by omega)];dsimp only [cond_true,Option.bind_some];by_cases q:((bo x:Nat):Int)<=a
    . rw [bC q,ax (by omega),decide_eq_true q]; rfl
    . rw [a8 q,decide_eq_false q]; rfl) (fun i x a a' hx ha hf=>by
    by_cases q:((bo x:Nat):Int)<=a
    . rw [decide_eq_true q] at hf;simp only [cond_true,Sum.inl.injEq] at hf;omega
    . rw [decide_eq_false q] at hf;simp at hf) (fun a ha=>by
    show pZ xs a (xs.length:Int)=_;unfold pZ;rw [aw rfl]; rfl)
 rw [rS _ _ _ _ _ _ h0] at h;refine Eq.trans h ?_;split <;> rfl
theorem EK (xs:List gL) (left:Int) (h0:0<=left) (h1:left<=1048576) (hb:xs.length<=aT/\∀ y∈xs,uT y):Mo xs left=some ((),((CH left (wL bo xs),()),())):=by
 have hw:wL bo xs=xs.length + cL bo xs:=rfl;unfold Mo;dsimp only;rw [dD (s:=xs) (left:=left) (by omega) (by omega) hb.1];by_cases q:((xs.length:Nat):Int)<=left
 . rw [ax (by omega)];dsimp only [cond_false];rw [zT xs hb _ (by omega) (by omega)];by_cases q2:((cL bo xs:Nat):Int)<=left - (xs.length:Int)
   . rw [if_pos q2,bC (by omega)];dsimp only [Option.bind_some,Sum.elim_inl];have e:left - (xs.length:Int) - (cL bo xs:Nat)=left - ((wL bo xs:Nat):Int):=by omega
     rw [e]
   . rw [if_neg q2,a8 (by omega)]; rfl
 . rw [aG (by omega),a8 (by omega)]; rfl
theorem N9 (xs:List gL) (h:wL bo xs<=1048576):L7 xs=some ((),((xs,()),())):=by
 have hb:aT=140737488355328:=rfl;have hw:wL bo xs=xs.length + cL bo xs:=rfl;unfold L7;dsimp only;rw [pF (by decide) (by omega),jt]
 have h:=aI (step:=fun (x:(List gL)×(List dp)×Int×Unit)=>ph x.1 x.2.1 x.2.2.1) xs (fun i (a:List gL)=>(xs,a ++ List.replicate (xs.length - i) d59,((i:Nat):Int),())) (fun _ x (a:List gL)=>Sum.inl (a ++ [x]))
  (fun a=> .inl (xs,a,(xs.length:Int),())) (fun i a=>a.length=i) (a0:=[]) rfl (fun i x a hx ha=>by
    have hlt:=aj hx;have hcm:=dw bo hx;show ph xs (a ++ List.replicate (xs.length - i) d59) (i:Int)=_;unfold ph;obtain ⟨q,hq⟩:∃ q,xs.length - i=q + 1:=⟨xs.length - i - 1,by omega⟩;have hq':xs.length - (i + 1)=q:=by omega
    rw [hq,List.replicate_succ,aD hx,az hx,aV _ hx,RB x (by omega)];dsimp only [cond_true,Option.bind_some];simp only [eN ha,kC _ ha,eH ha,aJ (show i<=aT by omega),hq',cond_true,List.append_assoc,List.singleton_append]) (fun i x a a' hx ha hf=>by
    simp only [Sum.inl.injEq] at hf;rw [<- hf,List.length_append,ha]; rfl) (fun a ha=>by
    show ph xs (a ++ List.replicate (xs.length - xs.length) d59) (xs.length:Int)=_;unfold ph;rw [aw rfl,Nat.sub_self,List.replicate_zero,List.append_nil]; rfl)
 rw [fJ] at h;have h':KJ xs (List.replicate xs.length d59) 0=_:=h;rw [h']; rfl
theorem NH (xs:List dp) (h:wL bo xs<=1099511627776):NY xs xs=some ((),((true,()),())):=by
 have hb:aT=140737488355328:=rfl;have hw:wL bo xs=xs.length + cL bo xs:=rfl;unfold NY;rw [bg];have h:=aH (step:=fun (x:(List dp)×(List dp)×Int×Unit)=>oD x.1 x.2.1 x.2.2.1) xs (fun i (_:Unit)=>(xs,xs,((i:Nat):Int),())) (fun _ x _=>Sum.inl ()) (fun _=> .inl (xs,xs,(xs.length:Int),())) (a0:=()) (fun i x a hx=>by
  have hlt:=aj hx;have hcm:=dw bo hx;show oD xs xs (i:Int)=_;unfold oD;rw [aD hx,az hx,aV _ hx,Sa x (by omega),aJ (by omega)]; rfl) (fun a=>by
  show oD xs xs (xs.length:Int)=_;unfold oD;rw [aw rfl]; rfl)
 rw [bY (fun _ a=>a)] at h;have h':JW xs xs 0=_:=h;rw [h']; rfl
theorem Gt (xs:List dp) (k:Int) (h1:1<=k) (h2:k + ((cL bR xs:Nat):Int)<=1099511627776) (h3:wL bo xs<=1099511627776):WN xs k=some (((fw fU bR xs k,()),()),((k + ((cL bR xs:Nat):Int),()),())):=by
 have hb:aT=140737488355328:=rfl;have hwl:wL bo xs=xs.length + cL bo xs:=rfl;unfold WN
 have h:=aI (step:=fun (x:(List dp)×Int×Int×Unit)=>wB x.1 x.2.1 x.2.2.1) xs (fun i (a:List dp×Int)=>(a.1 ++ xs.drop i,a.2,((i:Nat):Int),())) (fun _ x (a:List dp×Int)=>Sum.inl (a.1 ++ [fU x a.2],a.2 + ((bR x:Nat):Int)))
  (fun a=> .inl (a.1,a.2,(xs.length:Int),())) (fun i a=>a.1.length=i/\1<=a.2/\a.2 + ((cL bR (xs.drop i):Nat):Int)<=1099511627776) (a0:=([],k)) ⟨rfl,h1,h2⟩ (fun i x a hx ha=>by
    have hlt:=aj hx;have hcm:=dw bo hx;obtain ⟨hd,ha1,ha2⟩:=ha;rw [cR _ hx] at ha2;have hc:bR x=1 + 1 + 1 + 1 + 1 + cL bb x.2.2.2.2.2.1 + 1 + 1 + cL (fun _=>1) x.2.2.2.2.2.2.2.2.1 + cL (fun _=>1) x.2.2.2.2.2.2.2.2.2.1 + cL bP x.2.2.2.2.2.2.2.2.2.2.1:=rfl;have hw:bo x=x.1.length + wL bp x.2.2.2.2.2.1 + eF (x.2.2.2.2.2.2.1,x.2.2.2.2.2.2.2.1,x.2.2.2.2.2.2.2.2.1,x.2.2.2.2.2.2.2.2.2.1,()) + wL bF x.2.2.2.2.2.2.2.2.2.2.1:=rfl;have hw6:eF (x.2.2.2.2.2.2.1,x.2.2.2.2.2.2.2.1,x.2.2.2.2.2.2.2.2.1,x.2.2.2.2.2.2.2.2.2.1,())=(x.2.2.2.2.2.2.1,x.2.2.2.2.2.2.2.1,x.2.2.2.2.2.2.2.2.1,x.2.2.2.2.2.2.2.2.2.1,()).2.2.1.length + (x.2.2.2.2.2.2.1,x.2.2.2.2.2.2.2.1,x.2.2.2.2.2.2.2.2.1,x.2.2.2.2.2.2.2.2.2.1,()).2.2.2.1.length:=rfl;have a0:ai .i64 a.2 1=a.2 + 1:=ay (by omega) (by omega);have a1:ai .i64 (a.2 + 1) 1=(a.2 + 1) + 1:=ay (by omega) (by omega);have a2:ai .i64 ((a.2 + 1) + 1) 1=((a.2 + 1) + 1) + 1:=ay (by omega) (by omega);have a3:ai .i64 (((a.2 + 1) + 1) + 1) 1=(((a.2 + 1) + 1) + 1) + 1:=ay (by omega) (by omega);have a4:ai .i64 ((((a.2 + 1) + 1) + 1) + 1) 1=((((a.2 + 1) + 1) + 1) + 1) + 1:=ay (by omega) (by omega);have m5:=Gn x.2.2.2.2.2.1 (((((a.2 + 1) + 1) + 1) + 1) + 1) (by omega) (by omega) (by omega);have a6:ai .i64 ((((((a.2 + 1) + 1) + 1) + 1) + 1) + ((cL bb x.2.2.2.2.2.1:Nat):Int)) 1=((((((a.2 + 1) + 1) + 1) + 1) + 1) + ((cL bb x.2.2.2.2.2.1:Nat):Int)) + 1:=ay (by omega) (by omega);have a7:ai .i64 (((((((a.2 + 1) + 1) + 1) + 1) + 1) + ((cL bb x.2.2.2.2.2.1:Nat):Int)) + 1) 1=(((((((a.2 + 1) + 1) + 1) + 1) + 1) + ((cL bb x.2.2.2.2.2.1:Nat):Int)) + 1) + 1:=ay (by omega) (by omega);have m8:=xF x.2.2.2.2.2.2.2.2.1 ((((((((a.2 + 1) + 1) + 1) + 1) + 1) + ((cL bb x.2.2.2.2.2.1:Nat):Int)) + 1) + 1) (by omega) (by omega);have m9:=xF x.2.2.2.2.2.2.2.2.2.1 (((((((((a.2 + 1) + 1) + 1) + 1) + 1) + ((cL bb x.2.2.2.2.2.1:Nat):Int)) + 1) + 1) + ((cL (fun _=>1) x.2.2.2.2.2.2.2.2.1:Nat):Int)) (by omega) (by omega);have m10:=GA x.2.2.2.2.2.2.2.2.2.2.1 ((((((((((a.2 + 1) + 1) + 1) + 1) + 1) + ((cL bb x.2.2.2.2.2.1:Nat):Int)) + 1) + 1) + ((cL (fun _=>1) x.2.2.2.2.2.2.2.2.1:Nat):Int)) + ((cL (fun _=>1) x.2.2.2.2.2.2.2.2.2.1:Nat):Int)) (by omega) (by omega) (by omega);show wB (a.1 ++ xs.drop i) a.2 (i:Int)=_;unfold wB;have e:(((((((((((a.2 + 1) + 1) + 1) + 1) + 1) + ((cL bb x.2.2.2.2.2.1:Nat):Int)) + 1) + 1) + ((cL (fun _=>1) x.2.2.2.2.2.2.2.2.1:Nat):Int)) + ((cL (fun _=>1) x.2.2.2.2.2.2.2.2.2.1:Nat):Int)) + ((cL bP x.2.2.2.2.2.2.2.2.2.2.1:Nat):Int))=a.2 + ((bR x:Nat):Int):=by omega
    simp only [iM hx,ln hd,eN hd,eH hd,kC _ hd,aJ (show i<=aT by omega),cond_true,Option.bind_some,a0,text (k:=a.2) (by omega) (by omega),a1,a2,a3,a4,m5,a6,a7,m8,m9,m10];rw [e,List.append_assoc]; rfl) (fun i x a a' hx ha hf=>by
    obtain ⟨hd,ha1,ha2⟩:=ha;rw [cR _ hx] at ha2;simp only [Sum.inl.injEq] at hf;subst hf;refine ⟨by rw [List.length_append,hd]; rfl,?_,?_⟩
    . show 1<=a.2 + ((bR x:Nat):Int); omega
    . show a.2 + ((bR x:Nat):Int) + _<=_; omega) (fun a ha=>by
    show wB (a.1 ++ xs.drop xs.length) a.2 (xs.length:Int)=_;unfold wB;rw [List.drop_length,List.append_nil,aw ha.1]; rfl)
 rw [mI fU bR] at h;have h':OF xs k 0=_:=h;rw [h']; rfl
theorem G8 (xs:List dp) (k:Int) (h1:1<=k) (h2:k + ((cL bR xs:Nat):Int)<=1099511627776) (h3:wL bo xs<=1099511627776):Xi (fw fU bR xs k) k=some ((),((k + ((cL bR xs:Nat):Int),()),())):=by
 have hb:aT=140737488355328:=rfl;have hwl:wL bo xs=xs.length + cL bo xs:=rfl;unfold Xi
 have h:=aI (step:=fun (x:(List dp)×Int×Int×Unit)=>vj x.1 x.2.1 x.2.2.1) xs (fun i (a:Int)=>(fw fU bR xs k,a,((i:Nat):Int),())) (fun _ x (a:Int)=>Sum.inl (a + ((bR x:Nat):Int)))
  (fun a=> .inl (fw fU bR xs k,a,(xs.length:Int),())) (fun i a=>a=k + ((cL bR (xs.take i):Nat):Int)) (a0:=k) (by simp [cL]) (fun i x a hx ha=>by
    have hlt:=aj hx;have hcm:=dw bo hx;have hs:=jK bR xs i;have hy:=iD fU bR xs k i x hx;rw [cR _ hx] at hs;rw [<- ha] at hy;have hc:bR x=1 + 1 + 1 + 1 + 1 + cL bb x.2.2.2.2.2.1 + 1 + 1 + cL (fun _=>1) x.2.2.2.2.2.2.2.2.1 + cL (fun _=>1) x.2.2.2.2.2.2.2.2.2.1 + cL bP x.2.2.2.2.2.2.2.2.2.2.1:=rfl;have hw:bo x=x.1.length + wL bp x.2.2.2.2.2.1 + eF (x.2.2.2.2.2.2.1,x.2.2.2.2.2.2.2.1,x.2.2.2.2.2.2.2.2.1,x.2.2.2.2.2.2.2.2.2.1,()) + wL bF x.2.2.2.2.2.2.2.2.2.2.1:=rfl;have hw6:eF (x.2.2.2.2.2.2.1,x.2.2.2.2.2.2.2.1,x.2.2.2.2.2.2.2.2.1,x.2.2.2.2.2.2.2.2.2.1,())=(x.2.2.2.2.2.2.1,x.2.2.2.2.2.2.2.1,x.2.2.2.2.2.2.2.2.1,x.2.2.2.2.2.2.2.2.2.1,()).2.2.1.length + (x.2.2.2.2.2.2.1,x.2.2.2.2.2.2.2.1,x.2.2.2.2.2.2.2.2.1,x.2.2.2.2.2.2.2.2.2.1,()).2.2.2.1.length:=rfl;have a0:ai .i64 a 1=a + 1:=ay (by omega) (by omega);have a1:ai .i64 (a + 1) 1=(a + 1) + 1:=ay (by omega) (by omega);have a2:ai .i64 ((a + 1) + 1) 1=((a + 1) + 1) + 1:=ay (by omega) (by omega);have a3:ai .i64 (((a + 1) + 1) + 1) 1=(((a + 1) + 1) + 1) + 1:=ay (by omega) (by omega);have a4:ai .i64 ((((a + 1) + 1) + 1) + 1) 1=((((a + 1) + 1) + 1) + 1) + 1:=ay (by omega) (by omega);have m5:=FZ x.2.2.2.2.2.1 (((((a + 1) + 1) + 1) + 1) + 1) (by omega) (by omega) (by omega);have n5:au ((((((a + 1) + 1) + 1) + 1) + 1) + ((cL bb x.2.2.2.2.2.1:Nat):Int)) 0=false:=ax (by omega);have a6:ai .i64 ((((((a + 1) + 1) + 1) + 1) + 1) + ((cL bb x.2.2.2.2.2.1:Nat):Int)) 1=((((((a + 1) + 1) + 1) + 1) + 1) + ((cL bb x.2.2.2.2.2.1:Nat):Int)) + 1:=ay (by omega) (by omega);have a7:ai .i64 (((((((a + 1) + 1) + 1) + 1) + 1) + ((cL bb x.2.2.2.2.2.1:Nat):Int)) + 1) 1=(((((((a + 1) + 1) + 1) + 1) + 1) + ((cL bb x.2.2.2.2.2.1:Nat):Int)) + 1) + 1:=ay (by omega) (by omega);have m8:=uU x.2.2.2.2.2.2.2.2.1 ((((((((a + 1) + 1) + 1) + 1) + 1) + ((cL bb x.2.2.2.2.2.1:Nat):Int)) + 1) + 1) (by omega) (by omega);have n8:au (((((((((a + 1) + 1) + 1) + 1) + 1) + ((cL bb x.2.2.2.2.2.1:Nat):Int)) + 1) + 1) + ((cL (fun _=>1) x.2.2.2.2.2.2.2.2.1:Nat):Int)) 0=false:=ax (by omega);have m9:=uU x.2.2.2.2.2.2.2.2.2.1 (((((((((a + 1) + 1) + 1) + 1) + 1) + ((cL bb x.2.2.2.2.2.1:Nat):Int)) + 1) + 1) + ((cL (fun _=>1) x.2.2.2.2.2.2.2.2.1:Nat):Int)) (by omega) (by omega);have n9:au ((((((((((a + 1) + 1) + 1) + 1) + 1) + ((cL bb x.2.2.2.2.2.1:Nat):Int)) + 1) + 1) + ((cL (fun _=>1) x.2.2.2.2.2.2.2.2.1:Nat):Int)) + ((cL (fun _=>1) x.2.2.2.2.2.2.2.2.2.1:Nat):Int)) 0=false:=ax (by omega);have m10:=GJ x.2.2.2.2.2.2.2.2.2.2.1 ((((((((((a + 1) + 1) + 1) + 1) + 1) + ((cL bb x.2.2.2.2.2.1:Nat):Int)) + 1) + 1) + ((cL (fun _=>1) x.2.2.2.2.2.2.2.2.1:Nat):Int)) + ((cL (fun _=>1) x.2.2.2.2.2.2.2.2.2.1:Nat):Int)) (by omega) (by omega) (by omega);have n10:au (((((((((((a + 1) + 1) + 1) + 1) + 1) + ((cL bb x.2.2.2.2.2.1:Nat):Int)) + 1) + 1) + ((cL (fun _=>1) x.2.2.2.2.2.2.2.2.1:Nat):Int)) + ((cL (fun _=>1) x.2.2.2.2.2.2.2.2.2.1:Nat):Int)) + ((cL bP x.2.2.2.2.2.2.2.2.2.2.1:Nat):Int)) 0=false:=ax (by omega);show vj (fw fU bR xs k) a (i:Int)=_;unfold vj;have e:(((((((((((a + 1) + 1) + 1) + 1) + 1) + ((cL bb x.2.2.2.2.2.1:Nat):Int)) + 1) + 1) + ((cL (fun _=>1) x.2.2.2.2.2.2.2.2.1:Nat):Int)) + ((cL (fun _=>1) x.2.2.2.2.2.2.2.2.2.1:Nat):Int)) + ((cL bP x.2.2.2.2.2.2.2.2.2.2.1:Nat):Int))=a + ((bR x:Nat):Int):=by omega
    simp only [aD hy,az hy,aV _ hy,aJ (show i<=aT by omega),fU,cond_true,cond_false,Option.bind_some,cW,bg,Bool.not_true,a0,text (k:=a) (by omega) (by omega),a1,a2,a3,a4,m5,n5,a6,a7,m8,n8,m9,n9,m10,n10];rw [e]) (fun i x a a' hx ha hf=>by
    simp only [Sum.inl.injEq] at hf;rw [lL _ hx];omega) (fun a ha=>by
    show vj (fw fU bR xs k) a (xs.length:Int)=_;unfold vj;rw [aw (ke _ _ _ _)]; rfl)
 rw [kg bR] at h;have h':OZ (fw fU bR xs k) k 0=_:=h;rw [h']; rfl
def aN (x:(Int×(List gL)×Unit)):Nat:=wL bo x.2.1
def mK (x:(Int×(List gL)×Unit)):Prop:=(x.2.1.length<=aT/\∀ y∈x.2.1,uT y)
def BG (x:(Int×(List gL)×Unit)):Prop:=(∀ y∈x.2.1,JU y)
theorem Ky (x:(Int×(List gL)×Unit)) (left:Int) (h0:0<=left) (h1:left<=1048576) (hb:mK x):WS x left=some ((),((CH left (aN x),()),())):=by
 have hw:aN x=wL bo x.2.1:=rfl;unfold WS
 try dsimp only
 by_cases q0:((wL bo x.2.1:Nat):Int)<=left;rotate_left
 . rw [EK x.2.1 left (by omega) (by omega) (hb),a8 q0,a8 (by omega)]; rfl
 rw [EK x.2.1 left (by omega) (by omega) (hb),bC q0]; dsimp only [Option.bind_some]; rw [ax (by omega)]; dsimp only [cond_false];rw [bC (by omega)];have e:(left - ((wL bo x.2.1:Nat):Int))=left - ((aN x:Nat):Int):=by omega
 rw [e]
theorem IL (x:(Int×(List gL)×Unit)) (h:aN x<=1048576):Xb x=some ((),(x,())):=by have hw:aN x=wL bo x.2.1:=rfl;unfold Xb;rw [N9 x.2.1 (by omega)];rfl
theorem JC (x:(Int×(List gL)×Unit)) (h:aN x<=1099511627776):Xc x x=some ((),((true,()),())):=by have hw:aN x=wL bo x.2.1:=rfl;unfold Xc;simp only [bg,cW,Bool.not_true,cond_false,Option.bind_some,beq_self_eq_true,NH x.2.1 (by omega)]
def aX (x:(Int×(List gL)×Unit)):Nat:=1 + cL bR x.2.1
noncomputable def dz (x:(Int×(List gL)×Unit)) (k:Int):(Int×(List gL)×Unit):=(k,fw fU bR x.2.1 (k + 1),())
theorem Cy (x:(Int×(List gL)×Unit)):aX x<=100 * (aN x + 1):=by
 have hw:aN x=wL bo x.2.1:=rfl;have hc:aX x=1 + cL bR x.2.1:=rfl;have h1:=yI GG x.2.1
 try dsimp only at *
 omega
def bD (x:((List R5)×Int×(List R3)×Int×Int×Int×Int×Int×(List R5)×Unit)):Nat:=x.1.length + x.2.2.1.length + x.2.2.2.2.2.2.2.2.1.length
def xj (x:((List R5)×Int×(List R3)×Int×Int×Int×Int×Int×(List R5)×Unit)):Prop:=x.1.length<=aT/\x.2.2.1.length<=aT/\x.2.2.2.2.2.2.2.2.1.length<=aT
def De (x:((List R5)×Int×(List R3)×Int×Int×Int×Int×Int×(List R5)×Unit)):Prop:=(∀ y∈x.1,l3 .u8 y.1)/\(∀ y∈x.2.2.2.2.2.2.2.2.1,l3 .u8 y.1)
theorem RR (x:((List R5)×Int×(List R3)×Int×Int×Int×Int×Int×(List R5)×Unit)) (left:Int) (h0:0<=left) (h1:left<=1048576) (hb:xj x):Xo x left=some ((),((CH left (bD x),()),())):=by
 have hw:bD x=x.1.length + x.2.2.1.length + x.2.2.2.2.2.2.2.2.1.length:=rfl;unfold Xo
 try dsimp only
 by_cases q0:((x.1.length:Nat):Int)<=left;rotate_left
 . rw [nu x.1 left (by omega) (by omega) (hb.1),a8 q0,a8 (by omega)]; rfl
 rw [nu x.1 left (by omega) (by omega) (hb.1),bC q0]; dsimp only [Option.bind_some]; rw [ax (by omega)]; dsimp only [cond_false];by_cases q1:((x.2.2.1.length:Nat):Int)<=(left - ((x.1.length:Nat):Int));rotate_left
 . rw [sP x.2.2.1 (left - ((x.1.length:Nat):Int)) (by omega) (by omega) (hb.2.1),a8 q1,a8 (by omega)]; rfl
 rw [sP x.2.2.1 (left - ((x.1.length:Nat):Int)) (by omega) (by omega) (hb.2.1),bC q1]; dsimp only [Option.bind_some]; rw [ax (by omega)]; dsimp only [cond_false];by_cases q2:((x.2.2.2.2.2.2.2.2.1.length:Nat):Int)<=((left - ((x.1.length:Nat):Int)) - ((x.2.2.1.length:Nat):Int));rotate_left
 . rw [nu x.2.2.2.2.2.2.2.2.1 ((left - ((x.1.length:Nat):Int)) - ((x.2.2.1.length:Nat):Int)) (by omega) (by omega) (hb.2.2),a8 q2,a8 (by omega)]; rfl
 rw [nu x.2.2.2.2.2.2.2.2.1 ((left - ((x.1.length:Nat):Int)) - ((x.2.2.1.length:Nat):Int)) (by omega) (by omega) (hb.2.2),bC q2]; dsimp only [Option.bind_some]; rw [ax (by omega)]; dsimp only [cond_false];rw [bC (by omega)];have e:(((left - ((x.1.length:Nat):Int)) - ((x.2.2.1.length:Nat):Int)) - ((x.2.2.2.2.2.2.2.2.1.length:Nat):Int))=left - ((bD x:Nat):Int):=by omega
 rw [e]
theorem toTask (x:((List R5)×Int×(List R3)×Int×Int×Int×Int×Int×(List R5)×Unit)) (h:bD x<=1048576):Xw x=some ((),(x,())):=by have hw:bD x=x.1.length + x.2.2.1.length + x.2.2.2.2.2.2.2.2.1.length:=rfl;unfold Xw;rw [At x.1 (by omega)];rw [Dz x.2.2.1 (by omega)];rw [At x.2.2.2.2.2.2.2.2.1 (by omega)];rfl
theorem Ry (x:((List R5)×Int×(List R3)×Int×Int×Int×Int×Int×(List R5)×Unit)) (h:bD x<=1099511627776):W0 x x=some ((),((true,()),())):=by have hw:bD x=x.1.length + x.2.2.1.length + x.2.2.2.2.2.2.2.2.1.length:=rfl;unfold W0;simp only [bg,cW,Bool.not_true,cond_false,Option.bind_some,beq_self_eq_true,zZ x.1 (by omega),DN x.2.2.1 (by omega),zZ x.2.2.2.2.2.2.2.2.1 (by omega)]
def bQ (x:((List R5)×Int×(List R3)×Int×Int×Int×Int×Int×(List R5)×Unit)):Nat:=cL (fun _=>1) x.1 + 1 + cL (fun _=>1) x.2.2.1 + 1 + 1 + 1 + 1 + 1 + cL (fun _=>1) x.2.2.2.2.2.2.2.2.1
noncomputable def gb (x:((List R5)×Int×(List R3)×Int×Int×Int×Int×Int×(List R5)×Unit)) (k:Int):((List R5)×Int×(List R3)×Int×Int×Int×Int×Int×(List R5)×Unit):=(fw gV (fun _=>1) x.1 k,(k + ((cL (fun _=>1) x.1:Nat):Int)),fw mkInt (fun _=>1) x.2.2.1 ((k + ((cL (fun _=>1) x.1:Nat):Int)) + 1),(((k + ((cL (fun _=>1) x.1:Nat):Int)) + 1) + ((cL (fun _=>1) x.2.2.1:Nat):Int)),((((k + ((cL (fun _=>1) x.1:Nat):Int)) + 1) + ((cL (fun _=>1) x.2.2.1:Nat):Int)) + 1),(((((k + ((cL (fun _=>1) x.1:Nat):Int)) + 1) + ((cL (fun _=>1) x.2.2.1:Nat):Int)) + 1) + 1),((((((k + ((cL (fun _=>1) x.1:Nat):Int)) + 1) + ((cL (fun _=>1) x.2.2.1:Nat):Int)) + 1) + 1) + 1),(((((((k + ((cL (fun _=>1) x.1:Nat):Int)) + 1) + ((cL (fun _=>1) x.2.2.1:Nat):Int)) + 1) + 1) + 1) + 1),fw gV (fun _=>1) x.2.2.2.2.2.2.2.2.1 ((((((((k + ((cL (fun _=>1) x.1:Nat):Int)) + 1) + ((cL (fun _=>1) x.2.2.1:Nat):Int)) + 1) + 1) + 1) + 1) + 1),())
theorem Fp (x:((List R5)×Int×(List R3)×Int×Int×Int×Int×Int×(List R5)×Unit)):bQ x<=100 * (bD x + 1):=by
 have hw:bD x=x.1.length + x.2.2.1.length + x.2.2.2.2.2.2.2.2.1.length:=rfl;have hc:bQ x=cL (fun _=>1) x.1 + 1 + cL (fun _=>1) x.2.2.1 + 1 + 1 + 1 + 1 + 1 + cL (fun _=>1) x.2.2.2.2.2.2.2.2.1:=rfl;have h0:=kE x.1;have h2:=kE x.2.2.1;have h8:=kE x.2.2.2.2.2.2.2.2.1
 try dsimp only at *
 omega
theorem wV (xs:List p7) (hb:xs.length<=aT/\∀ y∈xs,mK y) (a:Int) (h0:0<=a) (h1:a<=1048576):PS xs a 0=some (if ((cL aN xs:Nat):Int)<=a then .inl (xs,a - (cL aN xs:Nat),(xs.length:Int),()) else .inr (-1,())):=by
 have h:=aI (step:=fun (x:(List p7)×Int×Int×Unit)=>xp x.1 x.2.1 x.2.2.1) xs (fun i (a:Int)=>(xs,a,((i:Nat):Int),())) (fun _ x (a:Int)=>bif decide ((aN x:Int)<=a) then Sum.inl (a - aN x) else .inr (.inr (-1,())))
  (fun a=> .inl (xs,a,(xs.length:Int),())) (fun _ a=>0<=a/\a<=1048576) (a0:=a) ⟨h0,h1⟩ (fun i x a hx ha=>by
    have hmem:=List.mem_of_getElem? hx;have hlt:=aj hx;show xp xs a (i:Int)=_;unfold xp;rw [aD hx,az hx,aV _ hx,Ky x a ha.1 ha.2 (hb.2 x hmem),aJ (by omega)];dsimp only [cond_true,Option.bind_some];by_cases q:((aN x:Nat):Int)<=a
    . rw [bC q,ax (by omega),decide_eq_true q]; rfl
    . rw [a8 q,decide_eq_false q]; rfl) (fun i x a a' hx ha hf=>by
    by_cases q:((aN x:Nat):Int)<=a
    . rw [decide_eq_true q] at hf;simp only [cond_true,Sum.inl.injEq] at hf;omega
    . rw [decide_eq_false q] at hf;simp at hf) (fun a ha=>by
    show xp xs a (xs.length:Int)=_;unfold xp;rw [aw rfl]; rfl)
 rw [rS _ _ _ _ _ _ h0] at h;refine Eq.trans h ?_;split <;> rfl
theorem za (xs:List p7) (left:Int) (h0:0<=left) (h1:left<=1048576) (hb:xs.length<=aT/\∀ y∈xs,mK y):g23 xs left=some ((),((CH left (wL aN xs),()),())):=by
 have hw:wL aN xs=xs.length + cL aN xs:=rfl;unfold g23;dsimp only;rw [dD (s:=xs) (left:=left) (by omega) (by omega) hb.1];by_cases q:((xs.length:Nat):Int)<=left
 . rw [ax (by omega)];dsimp only [cond_false];rw [wV xs hb _ (by omega) (by omega)];by_cases q2:((cL aN xs:Nat):Int)<=left - (xs.length:Int)
   . rw [if_pos q2,bC (by omega)];dsimp only [Option.bind_some,Sum.elim_inl];have e:left - (xs.length:Int) - (cL aN xs:Nat)=left - ((wL aN xs:Nat):Int):=by omega
     rw [e]
   . rw [if_neg q2,a8 (by omega)]; rfl
 . rw [aG (by omega),a8 (by omega)]; rfl
theorem FL (xs:List p7) (h:wL aN xs<=1048576):Xd xs=some ((),((xs,()),())):=by
 have hb:aT=140737488355328:=rfl;have hw:wL aN xs=xs.length + cL aN xs:=rfl;unfold Xd;dsimp only;rw [pF (by decide) (by omega),jt]
 have h:=aI (step:=fun (x:(List p7)×(List eb)×Int×Unit)=>vR x.1 x.2.1 x.2.2.1) xs (fun i (a:List p7)=>(xs,a ++ List.replicate (xs.length - i) d89,((i:Nat):Int),())) (fun _ x (a:List p7)=>Sum.inl (a ++ [x]))
  (fun a=> .inl (xs,a,(xs.length:Int),())) (fun i a=>a.length=i) (a0:=[]) rfl (fun i x a hx ha=>by
    have hlt:=aj hx;have hcm:=dw aN hx;show vR xs (a ++ List.replicate (xs.length - i) d89) (i:Int)=_;unfold vR;obtain ⟨q,hq⟩:∃ q,xs.length - i=q + 1:=⟨xs.length - i - 1,by omega⟩;have hq':xs.length - (i + 1)=q:=by omega
    rw [hq,List.replicate_succ,aD hx,az hx,aV _ hx,IL x (by omega)];dsimp only [cond_true,Option.bind_some];simp only [eN ha,kC _ ha,eH ha,aJ (show i<=aT by omega),hq',cond_true,List.append_assoc,List.singleton_append]) (fun i x a a' hx ha hf=>by
    simp only [Sum.inl.injEq] at hf;rw [<- hf,List.length_append,ha]; rfl) (fun a ha=>by
    show vR xs (a ++ List.replicate (xs.length - xs.length) d89) (xs.length:Int)=_;unfold vR;rw [aw rfl,Nat.sub_self,List.replicate_zero,List.append_nil]; rfl)
 rw [fJ] at h;have h':PQ xs (List.replicate xs.length d89) 0=_:=h;rw [h']; rfl
theorem Ho (xs:List eb) (h:wL aN xs<=1099511627776):W7 xs xs=some ((),((true,()),())):=by
 have hb:aT=140737488355328:=rfl;have hw:wL aN xs=xs.length + cL aN xs:=rfl;unfold W7;rw [bg];have h:=aH (step:=fun (x:(List eb)×(List eb)×Int×Unit)=>wF x.1 x.2.1 x.2.2.1) xs (fun i (_:Unit)=>(xs,xs,((i:Nat):Int),())) (fun _ x _=>Sum.inl ()) (fun _=> .inl (xs,xs,(xs.length:Int),())) (a0:=()) (fun i x a hx=>by
  have hlt:=aj hx;have hcm:=dw aN hx;show wF xs xs (i:Int)=_;unfold wF;rw [aD hx,az hx,aV _ hx,JC x (by omega),aJ (by omega)]; rfl) (fun a=>by
  show wF xs xs (xs.length:Int)=_;unfold wF;rw [aw rfl]; rfl)
 rw [bY (fun _ a=>a)] at h;have h':Pn xs xs 0=_:=h;rw [h']; rfl
theorem A9 (xs:List eb) (k:Int) (h1:1<=k) (h2:k + ((cL aX xs:Nat):Int)<=1099511627776) (h3:wL aN xs<=1099511627776):WX xs k=some (((fw dz aX xs k,()),()),((k + ((cL aX xs:Nat):Int),()),())):=by
 have hb:aT=140737488355328:=rfl;have hwl:wL aN xs=xs.length + cL aN xs:=rfl;unfold WX
 have h:=aI (step:=fun (x:(List eb)×Int×Int×Unit)=>vW x.1 x.2.1 x.2.2.1) xs (fun i (a:List eb×Int)=>(a.1 ++ xs.drop i,a.2,((i:Nat):Int),())) (fun _ x (a:List eb×Int)=>Sum.inl (a.1 ++ [dz x a.2],a.2 + ((aX x:Nat):Int)))
  (fun a=> .inl (a.1,a.2,(xs.length:Int),())) (fun i a=>a.1.length=i/\1<=a.2/\a.2 + ((cL aX (xs.drop i):Nat):Int)<=1099511627776) (a0:=([],k)) ⟨rfl,h1,h2⟩ (fun i x a hx ha=>by
    have hlt:=aj hx;have hcm:=dw aN hx;obtain ⟨hd,ha1,ha2⟩:=ha;rw [cR _ hx] at ha2;have hc:aX x=1 + cL bR x.2.1:=rfl;have hw:aN x=wL bo x.2.1:=rfl;have a0:ai .i64 a.2 1=a.2 + 1:=ay (by omega) (by omega);have m1:=Gt x.2.1 (a.2 + 1) (by omega) (by omega) (by omega);show vW (a.1 ++ xs.drop i) a.2 (i:Int)=_;unfold vW;have e:((a.2 + 1) + ((cL bR x.2.1:Nat):Int))=a.2 + ((aX x:Nat):Int):=by omega
    simp only [iM hx,ln hd,eN hd,eH hd,kC _ hd,aJ (show i<=aT by omega),cond_true,Option.bind_some,a0,m1];rw [e,List.append_assoc]; rfl) (fun i x a a' hx ha hf=>by
    obtain ⟨hd,ha1,ha2⟩:=ha;rw [cR _ hx] at ha2;simp only [Sum.inl.injEq] at hf;subst hf;refine ⟨by rw [List.length_append,hd]; rfl,?_,?_⟩
    . show 1<=a.2 + ((aX x:Nat):Int); omega
    . show a.2 + ((aX x:Nat):Int) + _<=_; omega) (fun a ha=>by
    show vW (a.1 ++ xs.drop xs.length) a.2 (xs.length:Int)=_;unfold vW;rw [List.drop_length,List.append_nil,aw ha.1]; rfl)
 rw [mI dz aX] at h;have h':Pc xs k 0=_:=h;rw [h']; rfl
theorem Cu (xs:List eb) (k:Int) (h1:1<=k) (h2:k + ((cL aX xs:Nat):Int)<=1099511627776) (h3:wL aN xs<=1099511627776):WT (fw dz aX xs k) k=some ((),((k + ((cL aX xs:Nat):Int),()),())):=by
 have hb:aT=140737488355328:=rfl;have hwl:wL aN xs=xs.length + cL aN xs:=rfl;unfold WT
 have h:=aI (step:=fun (x:(List eb)×Int×Int×Unit)=>uI x.1 x.2.1 x.2.2.1) xs (fun i (a:Int)=>(fw dz aX xs k,a,((i:Nat):Int),())) (fun _ x (a:Int)=>Sum.inl (a + ((aX x:Nat):Int)))
  (fun a=> .inl (fw dz aX xs k,a,(xs.length:Int),())) (fun i a=>a=k + ((cL aX (xs.take i):Nat):Int)) (a0:=k) (by simp [cL]) (fun i x a hx ha=>by
    have hlt:=aj hx;have hcm:=dw aN hx;have hs:=jK aX xs i;have hy:=iD dz aX xs k i x hx;rw [cR _ hx] at hs;rw [<- ha] at hy;have hc:aX x=1 + cL bR x.2.1:=rfl;have hw:aN x=wL bo x.2.1:=rfl;have a0:ai .i64 a 1=a + 1:=ay (by omega) (by omega);have m1:=G8 x.2.1 (a + 1) (by omega) (by omega) (by omega);have n1:au ((a + 1) + ((cL bR x.2.1:Nat):Int)) 0=false:=ax (by omega);show uI (fw dz aX xs k) a (i:Int)=_;unfold uI;have e:((a + 1) + ((cL bR x.2.1:Nat):Int))=a + ((aX x:Nat):Int):=by omega
    simp only [aD hy,az hy,aV _ hy,aJ (show i<=aT by omega),dz,cond_true,cond_false,Option.bind_some,cW,bg,Bool.not_true,a0,m1,n1];rw [e]) (fun i x a a' hx ha hf=>by
    simp only [Sum.inl.injEq] at hf;rw [lL _ hx];omega) (fun a ha=>by
    show uI (fw dz aX xs k) a (xs.length:Int)=_;unfold uI;rw [aw (ke _ _ _ _)]; rfl)
 rw [kg aX] at h;have h':OP (fw dz aX xs k) k 0=_:=h;rw [h']; rfl
theorem zc (xs:List nJ) (hb:xs.length<=aT/\∀ y∈xs,xj y) (a:Int) (h0:0<=a) (h1:a<=1048576):Pu xs a 0=some (if ((cL bD xs:Nat):Int)<=a then .inl (xs,a - (cL bD xs:Nat),(xs.length:Int),()) else .inr (-1,())):=by
 have h:=aI (step:=fun (x:(List nJ)×Int×Int×Unit)=>vq x.1 x.2.1 x.2.2.1) xs (fun i (a:Int)=>(xs,a,((i:Nat):Int),())) (fun _ x (a:Int)=>bif decide ((bD x:Int)<=a) then Sum.inl (a - bD x) else .inr (.inr (-1,())))
  (fun a=> .inl (xs,a,(xs.length:Int),())) (fun _ a=>0<=a/\a<=1048576) (a0:=a) ⟨h0,h1⟩ (fun i x a hx ha=>by
    have hmem:=List.mem_of_getElem? hx;have hlt:=aj hx;show vq xs a (i:Int)=_;unfold vq;rw [aD hx,az hx,aV _ hx,RR x a ha.1 ha.2 (hb.2 x hmem),aJ (by omega)];dsimp only [cond_true,Option.bind_some];by_cases q:((bD x:Nat):Int)<=a
    . rw [bC q,ax (by omega),decide_eq_true q]; rfl
    . rw [a8 q,decide_eq_false q]; rfl) (fun i x a a' hx ha hf=>by
    by_cases q:((bD x:Nat):Int)<=a
    . rw [decide_eq_true q] at hf;simp only [cond_true,Sum.inl.injEq] at hf;omega
    . rw [decide_eq_false q] at hf;simp at hf) (fun a ha=>by
    show vq xs a (xs.length:Int)=_;unfold vq;rw [aw rfl]; rfl)
 rw [rS _ _ _ _ _ _ h0] at h;refine Eq.trans h ?_;split <;> rfl
theorem Ek (xs:List nJ) (left:Int) (h0:0<=left) (h1:left<=1048576) (hb:xs.length<=aT/\∀ y∈xs,xj y):g24 xs left=some ((),((CH left (wL bD xs),()),())):=by
 have hw:wL bD xs=xs.length + cL bD xs:=rfl;unfold g24;dsimp only;rw [dD (s:=xs) (left:=left) (by omega) (by omega) hb.1];by_cases q:((xs.length:Nat):Int)<=left
 . rw [ax (by omega)];dsimp only [cond_false];rw [zc xs hb _ (by omega) (by omega)];by_cases q2:((cL bD xs:Nat):Int)<=left - (xs.length:Int)
   . rw [if_pos q2,bC (by omega)];dsimp only [Option.bind_some,Sum.elim_inl];have e:left - (xs.length:Int) - (cL bD xs:Nat)=left - ((wL bD xs:Nat):Int):=by omega
     rw [e]
   . rw [if_neg q2,a8 (by omega)]; rfl
 . rw [aG (by omega),a8 (by omega)]; rfl
theorem Nr (xs:List nJ) (h:wL bD xs<=1048576):Xg xs=some ((),((xs,()),())):=by
 have hb:aT=140737488355328:=rfl;have hw:wL bD xs=xs.length + cL bD xs:=rfl;unfold Xg;dsimp only;rw [pF (by decide) (by omega),jt]
 have h:=aI (step:=fun (x:(List nJ)×(List gy)×Int×Unit)=>wZ x.1 x.2.1 x.2.2.1) xs (fun i (a:List nJ)=>(xs,a ++ List.replicate (xs.length - i) d62,((i:Nat):Int),())) (fun _ x (a:List nJ)=>Sum.inl (a ++ [x]))
  (fun a=> .inl (xs,a,(xs.length:Int),())) (fun i a=>a.length=i) (a0:=[]) rfl (fun i x a hx ha=>by
    have hlt:=aj hx;have hcm:=dw bD hx;show wZ xs (a ++ List.replicate (xs.length - i) d62) (i:Int)=_;unfold wZ;obtain ⟨q,hq⟩:∃ q,xs.length - i=q + 1:=⟨xs.length - i - 1,by omega⟩;have hq':xs.length - (i + 1)=q:=by omega
    rw [hq,List.replicate_succ,aD hx,az hx,aV _ hx,toTask x (by omega)];dsimp only [cond_true,Option.bind_some];simp only [eN ha,kC _ ha,eH ha,aJ (show i<=aT by omega),hq',cond_true,List.append_assoc,List.singleton_append]) (fun i x a a' hx ha hf=>by
    simp only [Sum.inl.injEq] at hf;rw [<- hf,List.length_append,ha]; rfl) (fun a ha=>by
    show wZ xs (a ++ List.replicate (xs.length - xs.length) d62) (xs.length:Int)=_;unfold wZ;rw [aw rfl,Nat.sub_self,List.replicate_zero,List.append_nil]; rfl)
 rw [fJ] at h;have h':Oq xs (List.replicate xs.length d62) 0=_:=h;rw [h']; rfl
theorem Nt (xs:List gy) (h:wL bD xs<=1099511627776):Xh xs xs=some ((),((true,()),())):=by
 have hb:aT=140737488355328:=rfl;have hw:wL bD xs=xs.length + cL bD xs:=rfl;unfold Xh;rw [bg];have h:=aH (step:=fun (x:(List gy)×(List gy)×Int×Unit)=>wu x.1 x.2.1 x.2.2.1) xs (fun i (_:Unit)=>(xs,xs,((i:Nat):Int),())) (fun _ x _=>Sum.inl ()) (fun _=> .inl (xs,xs,(xs.length:Int),())) (a0:=()) (fun i x a hx=>by
  have hlt:=aj hx;have hcm:=dw bD hx;show wu xs xs (i:Int)=_;unfold wu;rw [aD hx,az hx,aV _ hx,Ry x (by omega),aJ (by omega)]; rfl) (fun a=>by
  show wu xs xs (xs.length:Int)=_;unfold wu;rw [aw rfl]; rfl)
 rw [bY (fun _ a=>a)] at h;have h':OK xs xs 0=_:=h;rw [h']; rfl
theorem GY (xs:List gy) (k:Int) (h1:1<=k) (h2:k + ((cL bQ xs:Nat):Int)<=1099511627776) (h3:wL bD xs<=1099511627776):WU xs k=some (((fw gb bQ xs k,()),()),((k + ((cL bQ xs:Nat):Int),()),())):=by
 have hb:aT=140737488355328:=rfl;have hwl:wL bD xs=xs.length + cL bD xs:=rfl;unfold WU
 have h:=aI (step:=fun (x:(List gy)×Int×Int×Unit)=>wC x.1 x.2.1 x.2.2.1) xs (fun i (a:List gy×Int)=>(a.1 ++ xs.drop i,a.2,((i:Nat):Int),())) (fun _ x (a:List gy×Int)=>Sum.inl (a.1 ++ [gb x a.2],a.2 + ((bQ x:Nat):Int)))
  (fun a=> .inl (a.1,a.2,(xs.length:Int),())) (fun i a=>a.1.length=i/\1<=a.2/\a.2 + ((cL bQ (xs.drop i):Nat):Int)<=1099511627776) (a0:=([],k)) ⟨rfl,h1,h2⟩ (fun i x a hx ha=>by
    have hlt:=aj hx;have hcm:=dw bD hx;obtain ⟨hd,ha1,ha2⟩:=ha;rw [cR _ hx] at ha2;have hc:bQ x=cL (fun _=>1) x.1 + 1 + cL (fun _=>1) x.2.2.1 + 1 + 1 + 1 + 1 + 1 + cL (fun _=>1) x.2.2.2.2.2.2.2.2.1:=rfl;have hw:bD x=x.1.length + x.2.2.1.length + x.2.2.2.2.2.2.2.2.1.length:=rfl;have m0:=sj x.1 a.2 (by omega) (by omega);have a1:ai .i64 (a.2 + ((cL (fun _=>1) x.1:Nat):Int)) 1=(a.2 + ((cL (fun _=>1) x.1:Nat):Int)) + 1:=ay (by omega) (by omega);have m2:=xF x.2.2.1 ((a.2 + ((cL (fun _=>1) x.1:Nat):Int)) + 1) (by omega) (by omega);have a3:ai .i64 (((a.2 + ((cL (fun _=>1) x.1:Nat):Int)) + 1) + ((cL (fun _=>1) x.2.2.1:Nat):Int)) 1=(((a.2 + ((cL (fun _=>1) x.1:Nat):Int)) + 1) + ((cL (fun _=>1) x.2.2.1:Nat):Int)) + 1:=ay (by omega) (by omega);have a4:ai .i64 ((((a.2 + ((cL (fun _=>1) x.1:Nat):Int)) + 1) + ((cL (fun _=>1) x.2.2.1:Nat):Int)) + 1) 1=((((a.2 + ((cL (fun _=>1) x.1:Nat):Int)) + 1) + ((cL (fun _=>1) x.2.2.1:Nat):Int)) + 1) + 1:=ay (by omega) (by omega);have a5:ai .i64 (((((a.2 + ((cL (fun _=>1) x.1:Nat):Int)) + 1) + ((cL (fun _=>1) x.2.2.1:Nat):Int)) + 1) + 1) 1=(((((a.2 + ((cL (fun _=>1) x.1:Nat):Int)) + 1) + ((cL (fun _=>1) x.2.2.1:Nat):Int)) + 1) + 1) + 1:=ay (by omega) (by omega);have a6:ai .i64 ((((((a.2 + ((cL (fun _=>1) x.1:Nat):Int)) + 1) + ((cL (fun _=>1) x.2.2.1:Nat):Int)) + 1) + 1) + 1) 1=((((((a.2 + ((cL (fun _=>1) x.1:Nat):Int)) + 1) + ((cL (fun _=>1) x.2.2.1:Nat):Int)) + 1) + 1) + 1) + 1:=ay (by omega) (by omega);have a7:ai .i64 (((((((a.2 + ((cL (fun _=>1) x.1:Nat):Int)) + 1) + ((cL (fun _=>1) x.2.2.1:Nat):Int)) + 1) + 1) + 1) + 1) 1=(((((((a.2 + ((cL (fun _=>1) x.1:Nat):Int)) + 1) + ((cL (fun _=>1) x.2.2.1:Nat):Int)) + 1) + 1) + 1) + 1) + 1:=ay (by omega) (by omega);have m8:=sj x.2.2.2.2.2.2.2.2.1 ((((((((a.2 + ((cL (fun _=>1) x.1:Nat):Int)) + 1) + ((cL (fun _=>1) x.2.2.1:Nat):Int)) + 1) + 1) + 1) + 1) + 1) (by omega) (by omega);show wC (a.1 ++ xs.drop i) a.2 (i:Int)=_;unfold wC;have e:(((((((((a.2 + ((cL (fun _=>1) x.1:Nat):Int)) + 1) + ((cL (fun _=>1) x.2.2.1:Nat):Int)) + 1) + 1) + 1) + 1) + 1) + ((cL (fun _=>1) x.2.2.2.2.2.2.2.2.1:Nat):Int))=a.2 + ((bQ x:Nat):Int):=by omega
    simp only [iM hx,ln hd,eN hd,eH hd,kC _ hd,aJ (show i<=aT by omega),cond_true,Option.bind_some,m0,a1,m2,a3,a4,a5,a6,a7,m8];rw [e,List.append_assoc]; rfl) (fun i x a a' hx ha hf=>by
    obtain ⟨hd,ha1,ha2⟩:=ha;rw [cR _ hx] at ha2;simp only [Sum.inl.injEq] at hf;subst hf;refine ⟨by rw [List.length_append,hd]; rfl,?_,?_⟩
    . show 1<=a.2 + ((bQ x:Nat):Int); omega
    . show a.2 + ((bQ x:Nat):Int) + _<=_; omega) (fun a ha=>by
    show wC (a.1 ++ xs.drop xs.length) a.2 (xs.length:Int)=_;unfold wC;rw [List.drop_length,List.append_nil,aw ha.1]; rfl)
 rw [mI gb bQ] at h;have h':PG xs k 0=_:=h;rw [h']; rfl
theorem GS (xs:List gy) (k:Int) (h1:1<=k) (h2:k + ((cL bQ xs:Nat):Int)<=1099511627776) (h3:wL bD xs<=1099511627776):W6 (fw gb bQ xs k) k=some ((),((k + ((cL bQ xs:Nat):Int),()),())):=by
 have hb:aT=140737488355328:=rfl;have hwl:wL bD xs=xs.length + cL bD xs:=rfl;unfold W6
 have h:=aI (step:=fun (x:(List gy)×Int×Int×Unit)=>vh x.1 x.2.1 x.2.2.1) xs (fun i (a:Int)=>(fw gb bQ xs k,a,((i:Nat):Int),())) (fun _ x (a:Int)=>Sum.inl (a + ((bQ x:Nat):Int)))
  (fun a=> .inl (fw gb bQ xs k,a,(xs.length:Int),())) (fun i a=>a=k + ((cL bQ (xs.take i):Nat):Int)) (a0:=k) (by simp [cL]) (fun i x a hx ha=>by
    have hlt:=aj hx;have hcm:=dw bD hx;have hs:=jK bQ xs i;have hy:=iD gb bQ xs k i x hx;rw [cR _ hx] at hs;rw [<- ha] at hy;have hc:bQ x=cL (fun _=>1) x.1 + 1 + cL (fun _=>1) x.2.2.1 + 1 + 1 + 1 + 1 + 1 + cL (fun _=>1) x.2.2.2.2.2.2.2.2.1:=rfl;have hw:bD x=x.1.length + x.2.2.1.length + x.2.2.2.2.2.2.2.2.1.length:=rfl;have m0:=sD x.1 a (by omega) (by omega);have n0:au (a + ((cL (fun _=>1) x.1:Nat):Int)) 0=false:=ax (by omega);have a1:ai .i64 (a + ((cL (fun _=>1) x.1:Nat):Int)) 1=(a + ((cL (fun _=>1) x.1:Nat):Int)) + 1:=ay (by omega) (by omega);have m2:=uU x.2.2.1 ((a + ((cL (fun _=>1) x.1:Nat):Int)) + 1) (by omega) (by omega);have n2:au (((a + ((cL (fun _=>1) x.1:Nat):Int)) + 1) + ((cL (fun _=>1) x.2.2.1:Nat):Int)) 0=false:=ax (by omega);have a3:ai .i64 (((a + ((cL (fun _=>1) x.1:Nat):Int)) + 1) + ((cL (fun _=>1) x.2.2.1:Nat):Int)) 1=(((a + ((cL (fun _=>1) x.1:Nat):Int)) + 1) + ((cL (fun _=>1) x.2.2.1:Nat):Int)) + 1:=ay (by omega) (by omega);have a4:ai .i64 ((((a + ((cL (fun _=>1) x.1:Nat):Int)) + 1) + ((cL (fun _=>1) x.2.2.1:Nat):Int)) + 1) 1=((((a + ((cL (fun _=>1) x.1:Nat):Int)) + 1) + ((cL (fun _=>1) x.2.2.1:Nat):Int)) + 1) + 1:=ay (by omega) (by omega);have a5:ai .i64 (((((a + ((cL (fun _=>1) x.1:Nat):Int)) + 1) + ((cL (fun _=>1) x.2.2.1:Nat):Int)) + 1) + 1) 1=(((((a + ((cL (fun _=>1) x.1:Nat):Int)) + 1) + ((cL (fun _=>1) x.2.2.1:Nat):Int)) + 1) + 1) + 1:=ay (by omega) (by omega);have a6:ai .i64 ((((((a + ((cL (fun _=>1) x.1:Nat):Int)) + 1) + ((cL (fun _=>1) x.2.2.1:Nat):Int)) + 1) + 1) + 1) 1=((((((a + ((cL (fun _=>1) x.1:Nat):Int)) + 1) + ((cL (fun _=>1) x.2.2.1:Nat):Int)) + 1) + 1) + 1) + 1:=ay (by omega) (by omega);have a7:ai .i64 (((((((a + ((cL (fun _=>1) x.1:Nat):Int)) + 1) + ((cL (fun _=>1) x.2.2.1:Nat):Int)) + 1) + 1) + 1) + 1) 1=(((((((a + ((cL (fun _=>1) x.1:Nat):Int)) + 1) + ((cL (fun _=>1) x.2.2.1:Nat):Int)) + 1) + 1) + 1) + 1) + 1:=ay (by omega) (by omega);have m8:=sD x.2.2.2.2.2.2.2.2.1 ((((((((a + ((cL (fun _=>1) x.1:Nat):Int)) + 1) + ((cL (fun _=>1) x.2.2.1:Nat):Int)) + 1) + 1) + 1) + 1) + 1) (by omega) (by omega);have n8:au (((((((((a + ((cL (fun _=>1) x.1:Nat):Int)) + 1) + ((cL (fun _=>1) x.2.2.1:Nat):Int)) + 1) + 1) + 1) + 1) + 1) + ((cL (fun _=>1) x.2.2.2.2.2.2.2.2.1:Nat):Int)) 0=false:=ax (by omega);show vh (fw gb bQ xs k) a (i:Int)=_;unfold vh;have e:(((((((((a + ((cL (fun _=>1) x.1:Nat):Int)) + 1) + ((cL (fun _=>1) x.2.2.1:Nat):Int)) + 1) + 1) + 1) + 1) + 1) + ((cL (fun _=>1) x.2.2.2.2.2.2.2.2.1:Nat):Int))=a + ((bQ x:Nat):Int):=by omega
    simp only [aD hy,az hy,aV _ hy,aJ (show i<=aT by omega),gb,cond_true,cond_false,Option.bind_some,cW,bg,Bool.not_true,m0,n0,a1,m2,n2,a3,a4,a5,a6,a7,m8,n8];rw [e]) (fun i x a a' hx ha hf=>by
    simp only [Sum.inl.injEq] at hf;rw [lL _ hx];omega) (fun a ha=>by
    show vh (fw gb bQ xs k) a (xs.length:Int)=_;unfold vh;rw [aw (ke _ _ _ _)]; rfl)
 rw [kg bQ] at h;have h':P1 (fw gb bQ xs k) k 0=_:=h;rw [h']; rfl
def eh (x:((List p7)×Int×Int×(List nJ)×Unit)):Nat:=wL aN x.1 + wL bD x.2.2.2.1
def zR (x:((List p7)×Int×Int×(List nJ)×Unit)):Prop:=(x.1.length<=aT/\∀ y∈x.1,mK y)/\(x.2.2.2.1.length<=aT/\∀ y∈x.2.2.2.1,xj y)
def zd (x:((List p7)×Int×Int×(List nJ)×Unit)):Prop:=(∀ y∈x.1,BG y)/\(∀ y∈x.2.2.2.1,De y)
theorem MO (x:((List p7)×Int×Int×(List nJ)×Unit)) (left:Int) (h0:0<=left) (h1:left<=1048576) (hb:zR x):g7 x left=some ((),((CH left (eh x),()),())):=by
 have hw:eh x=wL aN x.1 + wL bD x.2.2.2.1:=rfl;unfold g7
 try dsimp only
 by_cases q0:((wL aN x.1:Nat):Int)<=left;rotate_left
 . rw [za x.1 left (by omega) (by omega) (hb.1),a8 q0,a8 (by omega)]; rfl
 rw [za x.1 left (by omega) (by omega) (hb.1),bC q0]; dsimp only [Option.bind_some]; rw [ax (by omega)]; dsimp only [cond_false];by_cases q1:((wL bD x.2.2.2.1:Nat):Int)<=(left - ((wL aN x.1:Nat):Int));rotate_left
 . rw [Ek x.2.2.2.1 (left - ((wL aN x.1:Nat):Int)) (by omega) (by omega) (hb.2),a8 q1,a8 (by omega)]; rfl
 rw [Ek x.2.2.2.1 (left - ((wL aN x.1:Nat):Int)) (by omega) (by omega) (hb.2),bC q1]; dsimp only [Option.bind_some]; rw [ax (by omega)]; dsimp only [cond_false];rw [bC (by omega)];have e:((left - ((wL aN x.1:Nat):Int)) - ((wL bD x.2.2.2.1:Nat):Int))=left - ((eh x:Nat):Int):=by omega
 rw [e]
theorem L9 (x:((List p7)×Int×Int×(List nJ)×Unit)) (h:eh x<=1048576):g9 x=some ((),(x,())):=by have hw:eh x=wL aN x.1 + wL bD x.2.2.2.1:=rfl;unfold g9;rw [FL x.1 (by omega)];rw [Nr x.2.2.2.1 (by omega)];rfl
theorem Ex (x:((List p7)×Int×Int×(List nJ)×Unit)) (h:eh x<=1099511627776):g11 x x=some ((),((true,()),())):=by have hw:eh x=wL aN x.1 + wL bD x.2.2.2.1:=rfl;unfold g11;simp only [bg,cW,Bool.not_true,cond_false,Option.bind_some,beq_self_eq_true,Ho x.1 (by omega),Nt x.2.2.2.1 (by omega)]
def iP (x:((List p7)×Int×Int×(List nJ)×Unit)):Nat:=cL aX x.1 + cL bQ x.2.2.2.1
noncomputable def qg (x:((List p7)×Int×Int×(List nJ)×Unit)) (k:Int):((List p7)×Int×Int×(List nJ)×Unit):=(fw dz aX x.1 k,x.2.1,x.2.2.1,fw gb bQ x.2.2.2.1 (k + ((cL aX x.1:Nat):Int)),())
theorem yR (x:((List p7)×Int×Int×(List nJ)×Unit)):iP x<=100 * eh x:=by have hw:eh x=wL aN x.1 + wL bD x.2.2.2.1:=rfl;have hc:iP x=cL aX x.1 + cL bQ x.2.2.2.1:=rfl;have h0:=yI Cy x.1;have h3:=yI Fp x.2.2.2.1;omega
theorem yu (x:((List p7)×Int×Int×(List nJ)×Unit)) (k:Int) (h1:1<=k) (h2:k + ((iP x:Nat):Int)<=1099511627776) (h3:eh x<=1099511627776):g14 x k=some ((qg x k,()),((k + ((iP x:Nat):Int),()),())):=by
 have hb:aT=140737488355328:=rfl;have hw:eh x=wL aN x.1 + wL bD x.2.2.2.1:=rfl;have hc:iP x=cL aX x.1 + cL bQ x.2.2.2.1:=rfl;have m0:=A9 x.1 k (by omega) (by omega) (by omega);have m1:=GY x.2.2.2.1 (k + ((cL aX x.1:Nat):Int)) (by omega) (by omega) (by omega);unfold g14;have e:((k + ((cL aX x.1:Nat):Int)) + ((cL bQ x.2.2.2.1:Nat):Int))=k + ((iP x:Nat):Int):=by omega
 rw [m0]; dsimp only [Option.bind_some,cond_false];rw [m1]; dsimp only [Option.bind_some,cond_false];rw [e]
 try rfl
theorem GD (x:((List p7)×Int×Int×(List nJ)×Unit)) (k:Int) (h1:1<=k) (h2:k + ((iP x:Nat):Int)<=1099511627776) (h3:eh x<=1099511627776):g15 (qg x k) k=some ((),((k + ((iP x:Nat):Int),()),())):=by
 have hb:aT=140737488355328:=rfl;have hw:eh x=wL aN x.1 + wL bD x.2.2.2.1:=rfl;have hc:iP x=cL aX x.1 + cL bQ x.2.2.2.1:=rfl;have m0:=Cu x.1 k (by omega) (by omega) (by omega);have n0:au (k + ((cL aX x.1:Nat):Int)) 0=false:=ax (by omega);have m1:=GS x.2.2.2.1 (k + ((cL aX x.1:Nat):Int)) (by omega) (by omega) (by omega);have n1:au ((k + ((cL aX x.1:Nat):Int)) + ((cL bQ x.2.2.2.1:Nat):Int)) 0=false:=ax (by omega);unfold g15;have e:((k + ((cL aX x.1:Nat):Int)) + ((cL bQ x.2.2.2.1:Nat):Int))=k + ((iP x:Nat):Int):=by omega
 unfold qg;dsimp only;rw [m0]; dsimp only [Option.bind_some,cond_false];rw [n0]; dsimp only [Option.bind_some,cond_false];rw [m1]; dsimp only [Option.bind_some,cond_false];rw [n1]; dsimp only [Option.bind_some,cond_false];rw [e]
end Go.Av
