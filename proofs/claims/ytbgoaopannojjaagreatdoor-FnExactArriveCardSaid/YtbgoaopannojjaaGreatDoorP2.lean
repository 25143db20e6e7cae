/- Part of a proof that the law FnExactArrive answers true for every input: the printed functions of this program and their plain laws. No conditions beyond the statement. -/
import Derived.Test.YtbgoaopannojjaaGreatDoorP1
import Derived.Test.YtbgoaopannojjaaGreatDoorFw4
set_option maxRecDepth 100000
set_option maxHeartbeats 4000000
namespace Go.Av
theorem Gd:∀ (n:Nat) (t:Int) (s:List UInt8),0<=t->t < 10 ^ n->n<=18->s.length + n<=1000->∃ t' s',Ll t s=some (.inl (t',s',()))/\s'.length<=s.length + n:=by
 intro n;have hbig:aT=140737488355328:=rfl;induction n with
 | zero =>
   intro t s h0 h1 h3 h2;refine ⟨t,s,?_,by omega⟩;have:t=0:=by simp at h1; omega
   subst this;exact aK _ (by show mx 0 s=_; unfold mx; rfl)
 | succ n ih =>
   intro t s h0 h1 h3 h2;by_cases ht:0 < t
   . have hp:t < 10 ^ n * 10:=by rw [Int.pow_succ] at h1; exact h1
     have hle:(10:Int) ^ n<=10 ^ 18:=by
      have hn:n<=18:=by omega
      exact_mod_cast (Nat.pow_le_pow_right (by decide) hn:10 ^ n<=10 ^ 18)
     have hle':(10:Int) ^ n<=1000000000000000000:=hle;have hq:mg .i64 t 10=t / 10:=by unfold mg;rw [Int.tdiv_eq_ediv_of_nonneg h0];exact IntWalk.i64_in _ (by omega)
     have hc:(strOf [((bG .u8 (aj .i64 48 (fz t 10))),())]).length=1:=rfl;have hc2:(PL (strOf [((bG .u8 (aj .i64 48 (fz t 10))),())]) s).length=1 + s.length:=by rw [<- hc]; exact List.length_append
     obtain ⟨t',s',e1,e2⟩:=ih (t / 10) (PL (strOf [((bG .u8 (aj .i64 48 (fz t 10))),())]) s) (by omega) (by omega) (by omega) (by omega);refine ⟨t',s',aU _ (x':=(t / 10,PL (strOf [((bG .u8 (aj .i64 48 (fz t 10))),())]) s,())) ?_ e1,by omega⟩;show mx t s=_;unfold mx;have hf:GG (strOf [((bG .u8 (aj .i64 48 (fz t 10))),())]) s=true:=Nat.ble_eq_true_of_le (by omega);dsimp only;rw [aF ht,hq,hf];rfl
   . refine ⟨t,s,?_,by omega⟩;exact aK _ (by show mx t s=_; unfold mx; rw [ax ht]; rfl)
noncomputable def mt (k:Int):List UInt8:=match sO k with | some y=>y.2.1.1 | none=>[]
theorem text {k:Int} (h1:1<=k) (h2:k<=99999999999999999):sO k=some ((),((mt k,()),())):=by
 have hbig:aT=140737488355328:=rfl;obtain ⟨t',s',e1,e2⟩:=Gd 17 k [] (by omega) (by omega) (by decide) (by simp);have hr:sO k=some ((),((PL [109] s',()),())):=by unfold sO;have hf:GG [109] s'=true:=Nat.ble_eq_true_of_le (by simp at e2 ⊢; omega);have hle:bH k 0=false:=decide_eq_false (by omega);rw [hle,e1];dsimp only [cond_false,Option.bind_some,Sum.elim_inl];rw [hf]; rfl
 have hm:mt k=PL [109] s':=by unfold mt; rw [hr]
 rw [hm]; exact hr
def bq (x:((List UInt8)×Int×Int×Unit)):Nat:=x.1.length
def vj (x:((List UInt8)×Int×Int×Unit)):Prop:=x.1.length<=aT
theorem Qm (x:((List UInt8)×Int×Int×Unit)) (left:Int) (h0:0<=left) (h1:left<=1048576) (hb:vj x):L5 x left=some ((),((CJ left (bq x),()),())):=by
 have hw:bq x=x.1.length:=rfl;unfold L5
 try dsimp only
 by_cases q0:((x.1.length:Nat):Int)<=left;rotate_left
 . rw [dH (s:=x.1) (left:=left) (by omega) (by omega) hb]; rw [aF (by omega),a8 (by omega)]; rfl
 rw [dH (s:=x.1) (left:=left) (by omega) (by omega) hb]; rw [ax (by omega)]; dsimp only [cond_false];rw [bD (by omega)];have e:(left - ((x.1.length:Nat):Int))=left - ((bq x:Nat):Int):=by omega
 rw [e]
theorem Rx (x:((List UInt8)×Int×Int×Unit)) (h:bq x<=1048576):Nf x=some ((),(x,())):=by have hw:bq x=x.1.length:=rfl;unfold Nf;rfl
theorem SR (x:((List UInt8)×Int×Int×Unit)) (h:bq x<=1099511627776):M3 x x=some ((),((true,()),())):=by have hw:bq x=x.1.length:=rfl;unfold M3;simp only [bg,cU,Bool.not_true,cond_false,Option.bind_some,beq_self_eq_true]
def bb (x:((List UInt8)×Int×Int×Unit)):Nat:=1 + 1 + 1
noncomputable def fY (x:((List UInt8)×Int×Int×Unit)) (k:Int):((List UInt8)×Int×Int×Unit):=(mt k,(k + 1),((k + 1) + 1),())
theorem G6 (x:((List UInt8)×Int×Int×Unit)):bb x<=100 * (bq x + 1):=by
 have hw:bq x=x.1.length:=rfl;have hc:bb x=1 + 1 + 1:=rfl
 try dsimp only at *
 omega
theorem sG (x:(List R3)) (left:Int) (h0:0<=left) (h1:left<=1048576) (hb:x.length<=aT):GR x left=some ((),((CJ left x.length,()),())):=by
 unfold GR;dsimp only;by_cases q:((x.length:Nat):Int)<=left
 . rw [dH (s:=x) (left:=left) (by omega) (by omega) hb,ax (by omega),bD q]; rfl
 . rw [dH (s:=x) (left:=left) (by omega) (by omega) hb,aF (by omega),a8 q]; rfl
theorem DU (xs:List R3) (h:xs.length<=1048576):F9 xs=some ((),((xs,()),())):=by
 have hb:aT=140737488355328:=rfl;unfold F9;dsimp only;rw [px (by decide) (by omega),jz]
 have h:=aH (step:=fun (x:(List R3)×(List R3)×Int×Unit)=>oV x.1 x.2.1 x.2.2.1) xs (fun i (a:List R3)=>(xs,a ++ List.replicate (xs.length - i) d3,((i:Nat):Int),())) (fun _ x (a:List R3)=>Sum.inl (a ++ [x]))
  (fun a=> .inl (xs,a,(xs.length:Int),())) (fun i a=>a.length=i) (a0:=[]) rfl (fun i x a hx ha=>by
    have hlt:=ai hx;show oV xs (a ++ List.replicate (xs.length - i) d3) (i:Int)=_;unfold oV;obtain ⟨q,hq⟩:∃ q,xs.length - i=q + 1:=⟨xs.length - i - 1,by omega⟩;have hq':xs.length - (i + 1)=q:=by omega
    rw [hq,List.replicate_succ,aD hx,az hx,eO ha,aV _ hx,eF ha,aJ (by omega),hq'];dsimp only [cond_true];rw [List.append_assoc]; rfl) (fun i x a a' hx ha hf=>by
    simp only [Sum.inl.injEq] at hf;rw [<- hf,List.length_append,ha]; rfl) (fun a ha=>by
    show oV xs (a ++ List.replicate (xs.length - xs.length) d3) (xs.length:Int)=_;unfold oV;rw [aw rfl,Nat.sub_self,List.replicate_zero,List.append_nil]; rfl)
 rw [fH] at h;have h':KM xs (List.replicate xs.length d3) 0=_:=h;rw [h']; rfl
theorem DT (xs:List R3) (h:xs.length<=1099511627776):Fx xs xs=some ((),((true,()),())):=by
 have hb:aT=140737488355328:=rfl;unfold Fx;rw [bg];have h:=aI (step:=fun (x:(List R3)×(List R3)×Int×Unit)=>pK x.1 x.2.1 x.2.2.1) xs (fun i (_:Unit)=>(xs,xs,((i:Nat):Int),())) (fun _ x _=>Sum.inl ()) (fun _=> .inl (xs,xs,(xs.length:Int),())) (a0:=()) (fun i x a hx=>by
  have hlt:=ai hx;show pK xs xs (i:Int)=_;unfold pK;rw [aD hx,az hx,aV _ hx,bg,aJ (by omega)]; rfl) (fun a=>by
  show pK xs xs (xs.length:Int)=_;unfold pK;rw [aw rfl]; rfl)
 rw [bZ (fun _ a=>a)] at h;have h':HL xs xs 0=_:=h;rw [h']; rfl
def mkInt (x:Int×Unit) (k:Int):Int×Unit:=(k,())
theorem xw (xs:List R3) (k:Int) (h1:1<=k) (h2:k + ((cL (fun _=>1) xs:Nat):Int)<=1099511627776):S2 xs k=some (((fA mkInt (fun _=>1) xs k,()),()),((k + ((cL (fun _=>1) xs:Nat):Int),()),())):=by
 have hb:aT=140737488355328:=rfl;have hlen:xs.length<=1099511627776:=by rw [jK] at h2; omega
 unfold S2
 have h:=aH (step:=fun (x:(List R3)×Int×Int×Unit)=>vr x.1 x.2.1 x.2.2.1) xs (fun i (a:List R3×Int)=>(a.1 ++ xs.drop i,a.2,((i:Nat):Int),())) (fun _ x (a:List R3×Int)=>Sum.inl (a.1 ++ [mkInt x a.2],a.2 + ((1:Nat):Int)))
  (fun a=> .inl (a.1,a.2,(xs.length:Int),())) (fun i a=>a.1.length=i/\1<=a.2/\a.2 + ((cL (fun _=>1) (xs.drop i):Nat):Int)<=1099511627776) (a0:=([],k)) ⟨rfl,h1,h2⟩ (fun i x a hx ha=>by
    have hlt:=ai hx;obtain ⟨hd,ha1,ha2⟩:=ha;rw [cS _ hx] at ha2;have a1:aj .i64 a.2 1=a.2 + 1:=ay (by omega) (by omega);show vr (a.1 ++ xs.drop i) a.2 (i:Int)=_;unfold vr;rw [iN hx,lA hd,eO hd,eF hd,aJ (by omega),a1];dsimp only [cond_true];rw [List.append_assoc]; rfl) (fun i x a a' hx ha hf=>by
    obtain ⟨hd,ha1,ha2⟩:=ha;rw [cS _ hx] at ha2;simp only [Sum.inl.injEq] at hf;subst hf;refine ⟨by rw [List.length_append,hd]; rfl,?_,?_⟩
    . show 1<=a.2 + ((1:Nat):Int); omega
    . show a.2 + ((1:Nat):Int) + _<=_; omega) (fun a ha=>by
    show vr (a.1 ++ xs.drop xs.length) a.2 (xs.length:Int)=_;unfold vr;rw [List.drop_length,List.append_nil,aw ha.1]; rfl)
 rw [mR mkInt (fun _=>1)] at h;have h':O6 xs k 0=_:=h;rw [h']; rfl
theorem wH (xs:List R3) (k:Int) (h1:1<=k) (h2:k + ((cL (fun _=>1) xs:Nat):Int)<=1099511627776):S4 (fA mkInt (fun _=>1) xs k) k=some ((),((k + ((cL (fun _=>1) xs:Nat):Int),()),())):=by
 have hb:aT=140737488355328:=rfl;have hlen:xs.length<=1099511627776:=by rw [jK] at h2; omega
 unfold S4
 have h:=aH (step:=fun (x:(List R3)×Int×Int×Unit)=>vo x.1 x.2.1 x.2.2.1) xs (fun i (a:Int)=>(fA mkInt (fun _=>1) xs k,a,((i:Nat):Int),())) (fun _ x (a:Int)=>Sum.inl (a + ((1:Nat):Int)))
  (fun a=> .inl (fA mkInt (fun _=>1) xs k,a,(xs.length:Int),())) (fun i a=>a=k + ((cL (fun _=>1) (xs.take i):Nat):Int)) (a0:=k) (by simp [cL]) (fun i x a hx ha=>by
    have hlt:=ai hx;have hs:=jT (fun _=>1) xs i;have hy:=iK mkInt (fun _=>1) xs k i x hx;rw [cS _ hx] at hs;rw [<- ha] at hy;have a1:aj .i64 a 1=a + 1:=ay (by omega) (by omega);show vo (fA mkInt (fun _=>1) xs k) a (i:Int)=_;unfold vo;rw [aD hy,az hy,aV _ hy,aJ (by omega),a1];simp only [mkInt,bg,Bool.not_true,cond_true,cond_false]; rfl) (fun i x a a' hx ha hf=>by
    simp only [Sum.inl.injEq] at hf;rw [lF _ hx];omega) (fun a ha=>by
    show vo (fA mkInt (fun _=>1) xs k) a (xs.length:Int)=_;unfold vo;rw [aw (kg _ _ _ _)]; rfl)
 rw [ke (fun _=>1)] at h;have h':PZ (fA mkInt (fun _=>1) xs k) k 0=_:=h;rw [h']; rfl
def eH (x:(Int×Int×(List R3)×(List R3)×Unit)):Nat:=x.2.2.1.length + x.2.2.2.1.length
def HP (x:(Int×Int×(List R3)×(List R3)×Unit)):Prop:=x.2.2.1.length<=aT/\x.2.2.2.1.length<=aT
theorem Lk (x:(Int×Int×(List R3)×(List R3)×Unit)) (left:Int) (h0:0<=left) (h1:left<=1048576) (hb:HP x):NO x left=some ((),((CJ left (eH x),()),())):=by
 have hw:eH x=x.2.2.1.length + x.2.2.2.1.length:=rfl;unfold NO
 try dsimp only
 by_cases q0:((x.2.2.1.length:Nat):Int)<=left;rotate_left
 . rw [sG x.2.2.1 left (by omega) (by omega) (hb.1),a8 q0,a8 (by omega)]; rfl
 rw [sG x.2.2.1 left (by omega) (by omega) (hb.1),bD q0]; dsimp only [Option.bind_some]; rw [ax (by omega)]; dsimp only [cond_false];by_cases q1:((x.2.2.2.1.length:Nat):Int)<=(left - ((x.2.2.1.length:Nat):Int));rotate_left
 . rw [sG x.2.2.2.1 (left - ((x.2.2.1.length:Nat):Int)) (by omega) (by omega) (hb.2),a8 q1,a8 (by omega)]; rfl
 rw [sG x.2.2.2.1 (left - ((x.2.2.1.length:Nat):Int)) (by omega) (by omega) (hb.2),bD q1]; dsimp only [Option.bind_some]; rw [ax (by omega)]; dsimp only [cond_false];rw [bD (by omega)];have e:((left - ((x.2.2.1.length:Nat):Int)) - ((x.2.2.2.1.length:Nat):Int))=left - ((eH x:Nat):Int):=by omega
 rw [e]
theorem toRing (x:(Int×Int×(List R3)×(List R3)×Unit)) (h:eH x<=1048576):Mx x=some ((),(x,())):=by have hw:eH x=x.2.2.1.length + x.2.2.2.1.length:=rfl;unfold Mx;rw [DU x.2.2.1 (by omega)];rw [DU x.2.2.2.1 (by omega)];rfl
theorem Sj (x:(Int×Int×(List R3)×(List R3)×Unit)) (h:eH x<=1099511627776):Nd x x=some ((),((true,()),())):=by have hw:eH x=x.2.2.1.length + x.2.2.2.1.length:=rfl;unfold Nd;simp only [bg,cU,Bool.not_true,cond_false,Option.bind_some,beq_self_eq_true,DT x.2.2.1 (by omega),DT x.2.2.2.1 (by omega)]
theorem na (x:(List R5)) (left:Int) (h0:0<=left) (h1:left<=1048576) (hb:x.length<=aT):Hk x left=some ((),((CJ left x.length,()),())):=by
 unfold Hk;dsimp only;by_cases q:((x.length:Nat):Int)<=left
 . rw [dH (s:=x) (left:=left) (by omega) (by omega) hb,ax (by omega),bD q]; rfl
 . rw [dH (s:=x) (left:=left) (by omega) (by omega) hb,aF (by omega),a8 q]; rfl
theorem uh (xs:List R5) (h:xs.length<=1048576):g17 xs=some ((),((xs,()),())):=by
 have hb:aT=140737488355328:=rfl;unfold g17;dsimp only;rw [px (by decide) (by omega),jz]
 have h:=aH (step:=fun (x:(List R5)×(List R5)×Int×Unit)=>uU x.1 x.2.1 x.2.2.1) xs (fun i (a:List R5)=>(xs,a ++ List.replicate (xs.length - i) d5,((i:Nat):Int),())) (fun _ x (a:List R5)=>Sum.inl (a ++ [x]))
  (fun a=> .inl (xs,a,(xs.length:Int),())) (fun i a=>a.length=i) (a0:=[]) rfl (fun i x a hx ha=>by
    have hlt:=ai hx;show uU xs (a ++ List.replicate (xs.length - i) d5) (i:Int)=_;unfold uU;obtain ⟨q,hq⟩:∃ q,xs.length - i=q + 1:=⟨xs.length - i - 1,by omega⟩;have hq':xs.length - (i + 1)=q:=by omega
    rw [hq,List.replicate_succ,aD hx,az hx,eO ha,aV _ hx,eF ha,aJ (by omega),hq'];dsimp only [cond_true];rw [List.append_assoc]; rfl) (fun i x a a' hx ha hf=>by
    simp only [Sum.inl.injEq] at hf;rw [<- hf,List.length_append,ha]; rfl) (fun a ha=>by
    show uU xs (a ++ List.replicate (xs.length - xs.length) d5) (xs.length:Int)=_;unfold uU;rw [aw rfl,Nat.sub_self,List.replicate_zero,List.append_nil]; rfl)
 rw [fH] at h;have h':Pv xs (List.replicate xs.length d5) 0=_:=h;rw [h']; rfl
theorem uE (xs:List R5) (h:xs.length<=1099511627776):g19 xs xs=some ((),((true,()),())):=by
 have hb:aT=140737488355328:=rfl;unfold g19;rw [bg];have h:=aI (step:=fun (x:(List R5)×(List R5)×Int×Unit)=>xv x.1 x.2.1 x.2.2.1) xs (fun i (_:Unit)=>(xs,xs,((i:Nat):Int),())) (fun _ x _=>Sum.inl ()) (fun _=> .inl (xs,xs,(xs.length:Int),())) (a0:=()) (fun i x a hx=>by
  have hlt:=ai hx;show xv xs xs (i:Int)=_;unfold xv;rw [aD hx,az hx,aV _ hx,bg,aJ (by omega)]; rfl) (fun a=>by
  show xv xs xs (xs.length:Int)=_;unfold xv;rw [aw rfl]; rfl)
 rw [bZ (fun _ a=>a)] at h;have h':PB xs xs 0=_:=h;rw [h']; rfl
def gN (x:Int×Unit) (k:Int):Int×Unit:=(bG .u8 k,())
theorem nB (xs:List R5) (k:Int) (h1:1<=k) (h2:k + ((cL (fun _=>1) xs:Nat):Int)<=1099511627776):g20 xs k=some (((fA gN (fun _=>1) xs k,()),()),((k + ((cL (fun _=>1) xs:Nat):Int),()),())):=by
 have hb:aT=140737488355328:=rfl;have hlen:xs.length<=1099511627776:=by rw [jK] at h2; omega
 unfold g20
 have h:=aH (step:=fun (x:(List R5)×Int×Int×Unit)=>uZ x.1 x.2.1 x.2.2.1) xs (fun i (a:List R5×Int)=>(a.1 ++ xs.drop i,a.2,((i:Nat):Int),())) (fun _ x (a:List R5×Int)=>Sum.inl (a.1 ++ [gN x a.2],a.2 + ((1:Nat):Int)))
  (fun a=> .inl (a.1,a.2,(xs.length:Int),())) (fun i a=>a.1.length=i/\1<=a.2/\a.2 + ((cL (fun _=>1) (xs.drop i):Nat):Int)<=1099511627776) (a0:=([],k)) ⟨rfl,h1,h2⟩ (fun i x a hx ha=>by
    have hlt:=ai hx;obtain ⟨hd,ha1,ha2⟩:=ha;rw [cS _ hx] at ha2;have a1:aj .i64 a.2 1=a.2 + 1:=ay (by omega) (by omega);show uZ (a.1 ++ xs.drop i) a.2 (i:Int)=_;unfold uZ;rw [iN hx,lA hd,eO hd,eF hd,aJ (by omega),a1];dsimp only [cond_true];rw [List.append_assoc]; rfl) (fun i x a a' hx ha hf=>by
    obtain ⟨hd,ha1,ha2⟩:=ha;rw [cS _ hx] at ha2;simp only [Sum.inl.injEq] at hf;subst hf;refine ⟨by rw [List.length_append,hd]; rfl,?_,?_⟩
    . show 1<=a.2 + ((1:Nat):Int); omega
    . show a.2 + ((1:Nat):Int) + _<=_; omega) (fun a ha=>by
    show uZ (a.1 ++ xs.drop xs.length) a.2 (xs.length:Int)=_;unfold uZ;rw [List.drop_length,List.append_nil,aw ha.1]; rfl)
 rw [mR gN (fun _=>1)] at h;have h':PQ xs k 0=_:=h;rw [h']; rfl
theorem sd (xs:List R5) (k:Int) (h1:1<=k) (h2:k + ((cL (fun _=>1) xs:Nat):Int)<=1099511627776):S3 (fA gN (fun _=>1) xs k) k=some ((),((k + ((cL (fun _=>1) xs:Nat):Int),()),())):=by
 have hb:aT=140737488355328:=rfl;have hlen:xs.length<=1099511627776:=by rw [jK] at h2; omega
 unfold S3
 have h:=aH (step:=fun (x:(List R5)×Int×Int×Unit)=>xe x.1 x.2.1 x.2.2.1) xs (fun i (a:Int)=>(fA gN (fun _=>1) xs k,a,((i:Nat):Int),())) (fun _ x (a:Int)=>Sum.inl (a + ((1:Nat):Int)))
  (fun a=> .inl (fA gN (fun _=>1) xs k,a,(xs.length:Int),())) (fun i a=>a=k + ((cL (fun _=>1) (xs.take i):Nat):Int)) (a0:=k) (by simp [cL]) (fun i x a hx ha=>by
    have hlt:=ai hx;have hs:=jT (fun _=>1) xs i;have hy:=iK gN (fun _=>1) xs k i x hx;rw [cS _ hx] at hs;rw [<- ha] at hy;have a1:aj .i64 a 1=a + 1:=ay (by omega) (by omega);show xe (fA gN (fun _=>1) xs k) a (i:Int)=_;unfold xe;rw [aD hy,az hy,aV _ hy,aJ (by omega),a1];simp only [gN,bg,Bool.not_true,cond_true,cond_false]; rfl) (fun i x a a' hx ha hf=>by
    simp only [Sum.inl.injEq] at hf;rw [lF _ hx];omega) (fun a ha=>by
    show xe (fA gN (fun _=>1) xs k) a (xs.length:Int)=_;unfold xe;rw [aw (kg _ _ _ _)]; rfl)
 rw [ke (fun _=>1)] at h;have h':OZ (fA gN (fun _=>1) xs k) k 0=_:=h;rw [h']; rfl
def bF (x:((List UInt8)×(List UInt8)×(List R5)×Unit)):Nat:=x.1.length + x.2.1.length + x.2.2.1.length
def vz (x:((List UInt8)×(List UInt8)×(List R5)×Unit)):Prop:=x.1.length<=aT/\x.2.1.length<=aT/\x.2.2.1.length<=aT
def Je (x:((List UInt8)×(List UInt8)×(List R5)×Unit)):Prop:=(∀ y∈x.2.2.1,lJ .u8 y.1)
theorem RQ (x:((List UInt8)×(List UInt8)×(List R5)×Unit)) (left:Int) (h0:0<=left) (h1:left<=1048576) (hb:vz x):N0 x left=some ((),((CJ left (bF x),()),())):=by
 have hw:bF x=x.1.length + x.2.1.length + x.2.2.1.length:=rfl;unfold N0
 try dsimp only
 by_cases q0:((x.1.length:Nat):Int)<=left;rotate_left
 . rw [dH (s:=x.1) (left:=left) (by omega) (by omega) hb.1]; rw [aF (by omega),a8 (by omega)]; rfl
 rw [dH (s:=x.1) (left:=left) (by omega) (by omega) hb.1]; rw [ax (by omega)]; dsimp only [cond_false];by_cases q1:((x.2.1.length:Nat):Int)<=(left - ((x.1.length:Nat):Int));rotate_left
 . rw [dH (s:=x.2.1) (left:=(left - ((x.1.length:Nat):Int))) (by omega) (by omega) hb.2.1]; rw [aF (by omega),a8 (by omega)]; rfl
 rw [dH (s:=x.2.1) (left:=(left - ((x.1.length:Nat):Int))) (by omega) (by omega) hb.2.1]; rw [ax (by omega)]; dsimp only [cond_false];by_cases q2:((x.2.2.1.length:Nat):Int)<=((left - ((x.1.length:Nat):Int)) - ((x.2.1.length:Nat):Int));rotate_left
 . rw [na x.2.2.1 ((left - ((x.1.length:Nat):Int)) - ((x.2.1.length:Nat):Int)) (by omega) (by omega) (hb.2.2),a8 q2,a8 (by omega)]; rfl
 rw [na x.2.2.1 ((left - ((x.1.length:Nat):Int)) - ((x.2.1.length:Nat):Int)) (by omega) (by omega) (hb.2.2),bD q2]; dsimp only [Option.bind_some]; rw [ax (by omega)]; dsimp only [cond_false];rw [bD (by omega)];have e:(((left - ((x.1.length:Nat):Int)) - ((x.2.1.length:Nat):Int)) - ((x.2.2.1.length:Nat):Int))=left - ((bF x:Nat):Int):=by omega
 rw [e]
theorem Qu (x:((List UInt8)×(List UInt8)×(List R5)×Unit)) (h:bF x<=1048576):NV x=some ((),(x,())):=by have hw:bF x=x.1.length + x.2.1.length + x.2.2.1.length:=rfl;unfold NV;rw [uh x.2.2.1 (by omega)];rfl
theorem Sr (x:((List UInt8)×(List UInt8)×(List R5)×Unit)) (h:bF x<=1099511627776):Nx x x=some ((),((true,()),())):=by have hw:bF x=x.1.length + x.2.1.length + x.2.2.1.length:=rfl;unfold Nx;simp only [bg,cU,Bool.not_true,cond_false,Option.bind_some,beq_self_eq_true,uE x.2.2.1 (by omega)]
def bT (x:((List UInt8)×(List UInt8)×(List R5)×Unit)):Nat:=1 + 1 + cL (fun _=>1) x.2.2.1
noncomputable def fV (x:((List UInt8)×(List UInt8)×(List R5)×Unit)) (k:Int):((List UInt8)×(List UInt8)×(List R5)×Unit):=(mt k,mt (k + 1),fA gN (fun _=>1) x.2.2.1 ((k + 1) + 1),())
theorem Fw (x:((List UInt8)×(List UInt8)×(List R5)×Unit)):bT x<=100 * (bF x + 1):=by
 have hw:bF x=x.1.length + x.2.1.length + x.2.2.1.length:=rfl;have hc:bT x=1 + 1 + cL (fun _=>1) x.2.2.1:=rfl;have h2:=jK x.2.2.1
 try dsimp only at *
 omega
theorem zo (xs:List my) (hb:xs.length<=aT/\∀ y∈xs,vj y) (a:Int) (h0:0<=a) (h1:a<=1048576):Ii xs a 0=some (if ((cL bq xs:Nat):Int)<=a then .inl (xs,a - (cL bq xs:Nat),(xs.length:Int),()) else .inr (-1,())):=by
 have h:=aH (step:=fun (x:(List my)×Int×Int×Unit)=>pX x.1 x.2.1 x.2.2.1) xs (fun i (a:Int)=>(xs,a,((i:Nat):Int),())) (fun _ x (a:Int)=>bif decide ((bq x:Int)<=a) then Sum.inl (a - bq x) else .inr (.inr (-1,())))
  (fun a=> .inl (xs,a,(xs.length:Int),())) (fun _ a=>0<=a/\a<=1048576) (a0:=a) ⟨h0,h1⟩ (fun i x a hx ha=>by
    have hmem:=List.mem_of_getElem? hx;have hlt:=ai hx;show pX xs a (i:Int)=_;unfold pX;rw [aD hx,az hx,aV _ hx,Qm x a ha.1 ha.2 (hb.2 x hmem),aJ (by omega)];dsimp only [cond_true,Option.bind_some];by_cases q:((bq x:Nat):Int)<=a
    . rw [bD q,ax (by omega),decide_eq_true q]; rfl
    . rw [a8 q,decide_eq_false q]; rfl) (fun i x a a' hx ha hf=>by
    by_cases q:((bq x:Nat):Int)<=a
    . rw [decide_eq_true q] at hf;simp only [cond_true,Sum.inl.injEq] at hf;omega
    . rw [decide_eq_false q] at hf;simp at hf) (fun a ha=>by
    show pX xs a (xs.length:Int)=_;unfold pX;rw [aw rfl]; rfl)
 rw [so _ _ _ _ _ _ h0] at h;refine Eq.trans h ?_;split <;> rfl
theorem Ep (xs:List my) (left:Int) (h0:0<=left) (h1:left<=1048576) (hb:xs.length<=aT/\∀ y∈xs,vj y):M0 xs left=some ((),((CJ left (wL bq xs),()),())):=by
 have hw:wL bq xs=xs.length + cL bq xs:=rfl;unfold M0;dsimp only;rw [dH (s:=xs) (left:=left) (by omega) (by omega) hb.1];by_cases q:((xs.length:Nat):Int)<=left
 . rw [ax (by omega)];dsimp only [cond_false];rw [zo xs hb _ (by omega) (by omega)];by_cases q2:((cL bq xs:Nat):Int)<=left - (xs.length:Int)
   . rw [if_pos q2,bD (by omega)];dsimp only [Option.bind_some,Sum.elim_inl];have e:left - (xs.length:Int) - (cL bq xs:Nat)=left - ((wL bq xs:Nat):Int):=by omega
     rw [e]
   . rw [if_neg q2,a8 (by omega)]; rfl
 . rw [aF (by omega),a8 (by omega)]; rfl
theorem Ng (xs:List my) (h:wL bq xs<=1048576):Nr xs=some ((),((xs,()),())):=by
 have hb:aT=140737488355328:=rfl;have hw:wL bq xs=xs.length + cL bq xs:=rfl;unfold Nr;dsimp only;rw [px (by decide) (by omega),jz]
 have h:=aH (step:=fun (x:(List my)×(List gw)×Int×Unit)=>pC x.1 x.2.1 x.2.2.1) xs (fun i (a:List my)=>(xs,a ++ List.replicate (xs.length - i) d95,((i:Nat):Int),())) (fun _ x (a:List my)=>Sum.inl (a ++ [x]))
  (fun a=> .inl (xs,a,(xs.length:Int),())) (fun i a=>a.length=i) (a0:=[]) rfl (fun i x a hx ha=>by
    have hlt:=ai hx;have hcm:=dz bq hx;show pC xs (a ++ List.replicate (xs.length - i) d95) (i:Int)=_;unfold pC;obtain ⟨q,hq⟩:∃ q,xs.length - i=q + 1:=⟨xs.length - i - 1,by omega⟩;have hq':xs.length - (i + 1)=q:=by omega
    rw [hq,List.replicate_succ,aD hx,az hx,aV _ hx,Rx x (by omega)];dsimp only [cond_true,Option.bind_some];simp only [eO ha,kq _ ha,eF ha,aJ (show i<=aT by omega),hq',cond_true,List.append_assoc,List.singleton_append]) (fun i x a a' hx ha hf=>by
    simp only [Sum.inl.injEq] at hf;rw [<- hf,List.length_append,ha]; rfl) (fun a ha=>by
    show pC xs (a ++ List.replicate (xs.length - xs.length) d95) (xs.length:Int)=_;unfold pC;rw [aw rfl,Nat.sub_self,List.replicate_zero,List.append_nil]; rfl)
 rw [fH] at h;have h':JW xs (List.replicate xs.length d95) 0=_:=h;rw [h']; rfl
theorem LH (xs:List gw) (h:wL bq xs<=1099511627776):Nq xs xs=some ((),((true,()),())):=by
 have hb:aT=140737488355328:=rfl;have hw:wL bq xs=xs.length + cL bq xs:=rfl;unfold Nq;rw [bg];have h:=aI (step:=fun (x:(List gw)×(List gw)×Int×Unit)=>pd x.1 x.2.1 x.2.2.1) xs (fun i (_:Unit)=>(xs,xs,((i:Nat):Int),())) (fun _ x _=>Sum.inl ()) (fun _=> .inl (xs,xs,(xs.length:Int),())) (a0:=()) (fun i x a hx=>by
  have hlt:=ai hx;have hcm:=dz bq hx;show pd xs xs (i:Int)=_;unfold pd;rw [aD hx,az hx,aV _ hx,SR x (by omega),aJ (by omega)]; rfl) (fun a=>by
  show pd xs xs (xs.length:Int)=_;unfold pd;rw [aw rfl]; rfl)
 rw [bZ (fun _ a=>a)] at h;have h':HN xs xs 0=_:=h;rw [h']; rfl
theorem Gc (xs:List gw) (k:Int) (h1:1<=k) (h2:k + ((cL bb xs:Nat):Int)<=1099511627776) (h3:wL bq xs<=1099511627776):NB xs k=some (((fA fY bb xs k,()),()),((k + ((cL bb xs:Nat):Int),()),())):=by
 have hb:aT=140737488355328:=rfl;have hwl:wL bq xs=xs.length + cL bq xs:=rfl;unfold NB
 have h:=aH (step:=fun (x:(List gw)×Int×Int×Unit)=>oY x.1 x.2.1 x.2.2.1) xs (fun i (a:List gw×Int)=>(a.1 ++ xs.drop i,a.2,((i:Nat):Int),())) (fun _ x (a:List gw×Int)=>Sum.inl (a.1 ++ [fY x a.2],a.2 + ((bb x:Nat):Int)))
  (fun a=> .inl (a.1,a.2,(xs.length:Int),())) (fun i a=>a.1.length=i/\1<=a.2/\a.2 + ((cL bb (xs.drop i):Nat):Int)<=1099511627776) (a0:=([],k)) ⟨rfl,h1,h2⟩ (fun i x a hx ha=>by
    have hlt:=ai hx;have hcm:=dz bq hx;obtain ⟨hd,ha1,ha2⟩:=ha;rw [cS _ hx] at ha2;have hc:bb x=1 + 1 + 1:=rfl;have hw:bq x=x.1.length:=rfl;have a0:aj .i64 a.2 1=a.2 + 1:=ay (by omega) (by omega);have a1:aj .i64 (a.2 + 1) 1=(a.2 + 1) + 1:=ay (by omega) (by omega);have a2:aj .i64 ((a.2 + 1) + 1) 1=((a.2 + 1) + 1) + 1:=ay (by omega) (by omega);show oY (a.1 ++ xs.drop i) a.2 (i:Int)=_;unfold oY;have e:(((a.2 + 1) + 1) + 1)=a.2 + ((bb x:Nat):Int):=by omega
    simp only [iN hx,lA hd,eO hd,eF hd,kq _ hd,aJ (show i<=aT by omega),cond_true,Option.bind_some,a0,text (k:=a.2) (by omega) (by omega),a1,a2];rw [e,List.append_assoc]; rfl) (fun i x a a' hx ha hf=>by
    obtain ⟨hd,ha1,ha2⟩:=ha;rw [cS _ hx] at ha2;simp only [Sum.inl.injEq] at hf;subst hf;refine ⟨by rw [List.length_append,hd]; rfl,?_,?_⟩
    . show 1<=a.2 + ((bb x:Nat):Int); omega
    . show a.2 + ((bb x:Nat):Int) + _<=_; omega) (fun a ha=>by
    show oY (a.1 ++ xs.drop xs.length) a.2 (xs.length:Int)=_;unfold oY;rw [List.drop_length,List.append_nil,aw ha.1]; rfl)
 rw [mR fY bb] at h;have h':Jb xs k 0=_:=h;rw [h']; rfl
theorem Hf (xs:List gw) (k:Int) (h1:1<=k) (h2:k + ((cL bb xs:Nat):Int)<=1099511627776) (h3:wL bq xs<=1099511627776):MU (fA fY bb xs k) k=some ((),((k + ((cL bb xs:Nat):Int),()),())):=by
 have hb:aT=140737488355328:=rfl;have hwl:wL bq xs=xs.length + cL bq xs:=rfl;unfold MU
 have h:=aH (step:=fun (x:(List gw)×Int×Int×Unit)=>oW x.1 x.2.1 x.2.2.1) xs (fun i (a:Int)=>(fA fY bb xs k,a,((i:Nat):Int),())) (fun _ x (a:Int)=>Sum.inl (a + ((bb x:Nat):Int)))
  (fun a=> .inl (fA fY bb xs k,a,(xs.length:Int),())) (fun i a=>a=k + ((cL bb (xs.take i):Nat):Int)) (a0:=k) (by simp [cL]) (fun i x a hx ha=>by
    have hlt:=ai hx;have hcm:=dz bq hx;have hs:=jT bb xs i;have hy:=iK fY bb xs k i x hx;rw [cS _ hx] at hs;rw [<- ha] at hy;have hc:bb x=1 + 1 + 1:=rfl;have hw:bq x=x.1.length:=rfl;have a0:aj .i64 a 1=a + 1:=ay (by omega) (by omega);have a1:aj .i64 (a + 1) 1=(a + 1) + 1:=ay (by omega) (by omega);have a2:aj .i64 ((a + 1) + 1) 1=((a + 1) + 1) + 1:=ay (by omega) (by omega);show oW (fA fY bb xs k) a (i:Int)=_;unfold oW;have e:(((a + 1) + 1) + 1)=a + ((bb x:Nat):Int):=by omega
    simp only [aD hy,az hy,aV _ hy,aJ (show i<=aT by omega),fY,cond_true,cond_false,Option.bind_some,cU,bg,Bool.not_true,a0,text (k:=a) (by omega) (by omega),a1,a2];rw [e]) (fun i x a a' hx ha hf=>by
    simp only [Sum.inl.injEq] at hf;rw [lF _ hx];omega) (fun a ha=>by
    show oW (fA fY bb xs k) a (xs.length:Int)=_;unfold oW;rw [aw (kg _ _ _ _)]; rfl)
 rw [ke bb] at h;have h':Le (fA fY bb xs k) k 0=_:=h;rw [h']; rfl
theorem zt (xs:List l4) (hb:xs.length<=aT/\∀ y∈xs,vz y) (a:Int) (h0:0<=a) (h1:a<=1048576):Jt xs a 0=some (if ((cL bF xs:Nat):Int)<=a then .inl (xs,a - (cL bF xs:Nat),(xs.length:Int),()) else .inr (-1,())):=by
 have h:=aH (step:=fun (x:(List l4)×Int×Int×Unit)=>pq x.1 x.2.1 x.2.2.1) xs (fun i (a:Int)=>(xs,a,((i:Nat):Int),())) (fun _ x (a:Int)=>bif decide ((bF x:Int)<=a) then Sum.inl (a - bF x) else .inr (.inr (-1,())))
  (fun a=> .inl (xs,a,(xs.length:Int),())) (fun _ a=>0<=a/\a<=1048576) (a0:=a) ⟨h0,h1⟩ (fun i x a hx ha=>by
    have hmem:=List.mem_of_getElem? hx;have hlt:=ai hx;show pq xs a (i:Int)=_;unfold pq;rw [aD hx,az hx,aV _ hx,RQ x a ha.1 ha.2 (hb.2 x hmem),aJ (by omega)];dsimp only [cond_true,Option.bind_some];by_cases q:((bF x:Nat):Int)<=a
    . rw [bD q,ax (by omega),decide_eq_true q]; rfl
    . rw [a8 q,decide_eq_false q]; rfl) (fun i x a a' hx ha hf=>by
    by_cases q:((bF x:Nat):Int)<=a
    . rw [decide_eq_true q] at hf;simp only [cond_true,Sum.inl.injEq] at hf;omega
    . rw [decide_eq_false q] at hf;simp at hf) (fun a ha=>by
    show pq xs a (xs.length:Int)=_;unfold pq;rw [aw rfl]; rfl)
 rw [so _ _ _ _ _ _ h0] at h;refine Eq.trans h ?_;split <;> rfl
theorem Eu (xs:List l4) (left:Int) (h0:0<=left) (h1:left<=1048576) (hb:xs.length<=aT/\∀ y∈xs,vz y):Nt xs left=some ((),((CJ left (wL bF xs),()),())):=by
 have hw:wL bF xs=xs.length + cL bF xs:=rfl;unfold Nt;dsimp only;rw [dH (s:=xs) (left:=left) (by omega) (by omega) hb.1];by_cases q:((xs.length:Nat):Int)<=left
 . rw [ax (by omega)];dsimp only [cond_false];rw [zt xs hb _ (by omega) (by omega)];by_cases q2:((cL bF xs:Nat):Int)<=left - (xs.length:Int)
   . rw [if_pos q2,bD (by omega)];dsimp only [Option.bind_some,Sum.elim_inl];have e:left - (xs.length:Int) - (cL bF xs:Nat)=left - ((wL bF xs:Nat):Int):=by omega
     rw [e]
   . rw [if_neg q2,a8 (by omega)]; rfl
 . rw [aF (by omega),a8 (by omega)]; rfl
theorem Mv (xs:List l4) (h:wL bF xs<=1048576):N2 xs=some ((),((xs,()),())):=by
 have hb:aT=140737488355328:=rfl;have hw:wL bF xs=xs.length + cL bF xs:=rfl;unfold N2;dsimp only;rw [px (by decide) (by omega),jz]
 have h:=aH (step:=fun (x:(List l4)×(List cu)×Int×Unit)=>oq x.1 x.2.1 x.2.2.1) xs (fun i (a:List l4)=>(xs,a ++ List.replicate (xs.length - i) d166,((i:Nat):Int),())) (fun _ x (a:List l4)=>Sum.inl (a ++ [x]))
  (fun a=> .inl (xs,a,(xs.length:Int),())) (fun i a=>a.length=i) (a0:=[]) rfl (fun i x a hx ha=>by
    have hlt:=ai hx;have hcm:=dz bF hx;show oq xs (a ++ List.replicate (xs.length - i) d166) (i:Int)=_;unfold oq;obtain ⟨q,hq⟩:∃ q,xs.length - i=q + 1:=⟨xs.length - i - 1,by omega⟩;have hq':xs.length - (i + 1)=q:=by omega
    rw [hq,List.replicate_succ,aD hx,az hx,aV _ hx,Qu x (by omega)];dsimp only [cond_true,Option.bind_some];simp only [eO ha,kq _ ha,eF ha,aJ (show i<=aT by omega),hq',cond_true,List.append_assoc,List.singleton_append]) (fun i x a a' hx ha hf=>by
    simp only [Sum.inl.injEq] at hf;rw [<- hf,List.length_append,ha]; rfl) (fun a ha=>by
    show oq xs (a ++ List.replicate (xs.length - xs.length) d166) (xs.length:Int)=_;unfold oq;rw [aw rfl,Nat.sub_self,List.replicate_zero,List.append_nil]; rfl)
 rw [fH] at h;have h':HC xs (List.replicate xs.length d166) 0=_:=h;rw [h']; rfl
theorem ME (xs:List cu) (h:wL bF xs<=1099511627776):NN xs xs=some ((),((true,()),())):=by
 have hb:aT=140737488355328:=rfl;have hw:wL bF xs=xs.length + cL bF xs:=rfl;unfold NN;rw [bg];have h:=aI (step:=fun (x:(List cu)×(List cu)×Int×Unit)=>nX x.1 x.2.1 x.2.2.1) xs (fun i (_:Unit)=>(xs,xs,((i:Nat):Int),())) (fun _ x _=>Sum.inl ()) (fun _=> .inl (xs,xs,(xs.length:Int),())) (a0:=()) (fun i x a hx=>by
  have hlt:=ai hx;have hcm:=dz bF hx;show nX xs xs (i:Int)=_;unfold nX;rw [aD hx,az hx,aV _ hx,Sr x (by omega),aJ (by omega)]; rfl) (fun a=>by
  show nX xs xs (xs.length:Int)=_;unfold nX;rw [aw rfl]; rfl)
 rw [bZ (fun _ a=>a)] at h;have h':Kc xs xs 0=_:=h;rw [h']; rfl
theorem Gs (xs:List cu) (k:Int) (h1:1<=k) (h2:k + ((cL bT xs:Nat):Int)<=1099511627776) (h3:wL bF xs<=1099511627776):Mt xs k=some (((fA fV bT xs k,()),()),((k + ((cL bT xs:Nat):Int),()),())):=by
 have hb:aT=140737488355328:=rfl;have hwl:wL bF xs=xs.length + cL bF xs:=rfl;unfold Mt
 have h:=aH (step:=fun (x:(List cu)×Int×Int×Unit)=>nS x.1 x.2.1 x.2.2.1) xs (fun i (a:List cu×Int)=>(a.1 ++ xs.drop i,a.2,((i:Nat):Int),())) (fun _ x (a:List cu×Int)=>Sum.inl (a.1 ++ [fV x a.2],a.2 + ((bT x:Nat):Int)))
  (fun a=> .inl (a.1,a.2,(xs.length:Int),())) (fun i a=>a.1.length=i/\1<=a.2/\a.2 + ((cL bT (xs.drop i):Nat):Int)<=1099511627776) (a0:=([],k)) ⟨rfl,h1,h2⟩ (fun i x a hx ha=>by
    have hlt:=ai hx;have hcm:=dz bF hx;obtain ⟨hd,ha1,ha2⟩:=ha;rw [cS _ hx] at ha2;have hc:bT x=1 + 1 + cL (fun _=>1) x.2.2.1:=rfl;have hw:bF x=x.1.length + x.2.1.length + x.2.2.1.length:=rfl;have a0:aj .i64 a.2 1=a.2 + 1:=ay (by omega) (by omega);have a1:aj .i64 (a.2 + 1) 1=(a.2 + 1) + 1:=ay (by omega) (by omega);have m2:=nB x.2.2.1 ((a.2 + 1) + 1) (by omega) (by omega);show nS (a.1 ++ xs.drop i) a.2 (i:Int)=_;unfold nS;have e:(((a.2 + 1) + 1) + ((cL (fun _=>1) x.2.2.1:Nat):Int))=a.2 + ((bT x:Nat):Int):=by omega
    simp only [iN hx,lA hd,eO hd,eF hd,kq _ hd,aJ (show i<=aT by omega),cond_true,Option.bind_some,a0,text (k:=a.2) (by omega) (by omega),a1,text (k:=(a.2 + 1)) (by omega) (by omega),m2];rw [e,List.append_assoc]; rfl) (fun i x a a' hx ha hf=>by
    obtain ⟨hd,ha1,ha2⟩:=ha;rw [cS _ hx] at ha2;simp only [Sum.inl.injEq] at hf;subst hf;refine ⟨by rw [List.length_append,hd]; rfl,?_,?_⟩
    . show 1<=a.2 + ((bT x:Nat):Int); omega
    . show a.2 + ((bT x:Nat):Int) + _<=_; omega) (fun a ha=>by
    show nS (a.1 ++ xs.drop xs.length) a.2 (xs.length:Int)=_;unfold nS;rw [List.drop_length,List.append_nil,aw ha.1]; rfl)
 rw [mR fV bT] at h;have h':IU xs k 0=_:=h;rw [h']; rfl
theorem FB (xs:List cu) (k:Int) (h1:1<=k) (h2:k + ((cL bT xs:Nat):Int)<=1099511627776) (h3:wL bF xs<=1099511627776):Ml (fA fV bT xs k) k=some ((),((k + ((cL bT xs:Nat):Int),()),())):=by
 have hb:aT=140737488355328:=rfl;have hwl:wL bF xs=xs.length + cL bF xs:=rfl;unfold Ml
 have h:=aH (step:=fun (x:(List cu)×Int×Int×Unit)=>oh x.1 x.2.1 x.2.2.1) xs (fun i (a:Int)=>(fA fV bT xs k,a,((i:Nat):Int),())) (fun _ x (a:Int)=>Sum.inl (a + ((bT x:Nat):Int)))
  (fun a=> .inl (fA fV bT xs k,a,(xs.length:Int),())) (fun i a=>a=k + ((cL bT (xs.take i):Nat):Int)) (a0:=k) (by simp [cL]) (fun i x a hx ha=>by
    have hlt:=ai hx;have hcm:=dz bF hx;have hs:=jT bT xs i;have hy:=iK fV bT xs k i x hx;rw [cS _ hx] at hs;rw [<- ha] at hy;have hc:bT x=1 + 1 + cL (fun _=>1) x.2.2.1:=rfl;have hw:bF x=x.1.length + x.2.1.length + x.2.2.1.length:=rfl;have a0:aj .i64 a 1=a + 1:=ay (by omega) (by omega);have a1:aj .i64 (a + 1) 1=(a + 1) + 1:=ay (by omega) (by omega);have m2:=sd x.2.2.1 ((a + 1) + 1) (by omega) (by omega);have n2:au (((a + 1) + 1) + ((cL (fun _=>1) x.2.2.1:Nat):Int)) 0=false:=ax (by omega);show oh (fA fV bT xs k) a (i:Int)=_;unfold oh;have e:(((a + 1) + 1) + ((cL (fun _=>1) x.2.2.1:Nat):Int))=a + ((bT x:Nat):Int):=by omega
    simp only [aD hy,az hy,aV _ hy,aJ (show i<=aT by omega),fV,cond_true,cond_false,Option.bind_some,cU,bg,Bool.not_true,a0,text (k:=a) (by omega) (by omega),a1,text (k:=(a + 1)) (by omega) (by omega),m2,n2];rw [e]) (fun i x a a' hx ha hf=>by
    simp only [Sum.inl.injEq] at hf;rw [lF _ hx];omega) (fun a ha=>by
    show oh (fA fV bT xs k) a (xs.length:Int)=_;unfold oh;rw [aw (kg _ _ _ _)]; rfl)
 rw [ke bT] at h;have h':KL (fA fV bT xs k) k 0=_:=h;rw [h']; rfl
def bp (x:((List UInt8)×Int×Int×Int×Int×(List gw)×Int×Int×(List R3)×(List R3)×(List cu)×Unit)):Nat:=x.1.length + wL bq x.2.2.2.2.2.1 + eH (x.2.2.2.2.2.2.1,x.2.2.2.2.2.2.2.1,x.2.2.2.2.2.2.2.2.1,x.2.2.2.2.2.2.2.2.2.1,()) + wL bF x.2.2.2.2.2.2.2.2.2.2.1
def v8 (x:((List UInt8)×Int×Int×Int×Int×(List gw)×Int×Int×(List R3)×(List R3)×(List cu)×Unit)):Prop:=x.1.length<=aT/\(x.2.2.2.2.2.1.length<=aT/\∀ y∈x.2.2.2.2.2.1,vj y)/\HP (x.2.2.2.2.2.2.1,x.2.2.2.2.2.2.2.1,x.2.2.2.2.2.2.2.2.1,x.2.2.2.2.2.2.2.2.2.1,())/\(x.2.2.2.2.2.2.2.2.2.2.1.length<=aT/\∀ y∈x.2.2.2.2.2.2.2.2.2.2.1,vz y)
def J6 (x:((List UInt8)×Int×Int×Int×Int×(List gw)×Int×Int×(List R3)×(List R3)×(List cu)×Unit)):Prop:=(∀ y∈x.2.2.2.2.2.2.2.2.2.2.1,Je y)
theorem RT (x:((List UInt8)×Int×Int×Int×Int×(List gw)×Int×Int×(List R3)×(List R3)×(List cu)×Unit)) (left:Int) (h0:0<=left) (h1:left<=1048576) (hb:v8 x):Mb x left=some ((),((CJ left (bp x),()),())):=by
 have hw:bp x=x.1.length + wL bq x.2.2.2.2.2.1 + eH (x.2.2.2.2.2.2.1,x.2.2.2.2.2.2.2.1,x.2.2.2.2.2.2.2.2.1,x.2.2.2.2.2.2.2.2.2.1,()) + wL bF x.2.2.2.2.2.2.2.2.2.2.1:=rfl;unfold Mb
 try dsimp only
 by_cases q0:((x.1.length:Nat):Int)<=left;rotate_left
 . rw [dH (s:=x.1) (left:=left) (by omega) (by omega) hb.1]; rw [aF (by omega),a8 (by omega)]; rfl
 rw [dH (s:=x.1) (left:=left) (by omega) (by omega) hb.1]; rw [ax (by omega)]; dsimp only [cond_false];by_cases q1:((wL bq x.2.2.2.2.2.1:Nat):Int)<=(left - ((x.1.length:Nat):Int));rotate_left
 . rw [Ep x.2.2.2.2.2.1 (left - ((x.1.length:Nat):Int)) (by omega) (by omega) (hb.2.1),a8 q1,a8 (by omega)]; rfl
 rw [Ep x.2.2.2.2.2.1 (left - ((x.1.length:Nat):Int)) (by omega) (by omega) (hb.2.1),bD q1]; dsimp only [Option.bind_some]; rw [ax (by omega)]; dsimp only [cond_false];by_cases q2:((eH (x.2.2.2.2.2.2.1,x.2.2.2.2.2.2.2.1,x.2.2.2.2.2.2.2.2.1,x.2.2.2.2.2.2.2.2.2.1,()):Nat):Int)<=((left - ((x.1.length:Nat):Int)) - ((wL bq x.2.2.2.2.2.1:Nat):Int));rotate_left
 . rw [Lk (x.2.2.2.2.2.2.1,x.2.2.2.2.2.2.2.1,x.2.2.2.2.2.2.2.2.1,x.2.2.2.2.2.2.2.2.2.1,()) ((left - ((x.1.length:Nat):Int)) - ((wL bq x.2.2.2.2.2.1:Nat):Int)) (by omega) (by omega) (hb.2.2.1),a8 q2,a8 (by omega)]; rfl
 rw [Lk (x.2.2.2.2.2.2.1,x.2.2.2.2.2.2.2.1,x.2.2.2.2.2.2.2.2.1,x.2.2.2.2.2.2.2.2.2.1,()) ((left - ((x.1.length:Nat):Int)) - ((wL bq x.2.2.2.2.2.1:Nat):Int)) (by omega) (by omega) (hb.2.2.1),bD q2]; dsimp only [Option.bind_some]; rw [ax (by omega)]; dsimp only [cond_false];by_cases q3:((wL bF x.2.2.2.2.2.2.2.2.2.2.1:Nat):Int)<=(((left - ((x.1.length:Nat):Int)) - ((wL bq x.2.2.2.2.2.1:Nat):Int)) - ((eH (x.2.2.2.2.2.2.1,x.2.2.2.2.2.2.2.1,x.2.2.2.2.2.2.2.2.1,x.2.2.2.2.2.2.2.2.2.1,()):Nat):Int));rotate_left
 . rw [Eu x.2.2.2.2.2.2.2.2.2.2.1 (((left - ((x.1.length:Nat):Int)) - ((wL bq x.2.2.2.2.2.1:Nat):Int)) - ((eH (x.2.2.2.2.2.2.1,x.2.2.2.2.2.2.2.1,x.2.2.2.2.2.2.2.2.1,x.2.2.2.2.2.2.2.2.2.1,()):Nat):Int)) (by omega) (by omega) (hb.2.2.2),a8 q3,a8 (by omega)]; rfl
 rw [Eu x.2.2.2.2.2.2.2.2.2.2.1 (((left - ((x.1.length:Nat):Int)) - ((wL bq x.2.2.2.2.2.1:Nat):Int)) - ((eH (x.2.2.2.2.2.2.1,x.2.2.2.2.2.2.2.1,x.2.2.2.2.2.2.2.2.1,x.2.2.2.2.2.2.2.2.2.1,()):Nat):Int)) (by omega) (by omega) (hb.2.2.2),bD q3]; dsimp only [Option.bind_some]; rw [ax (by omega)]; dsimp only [cond_false];rw [bD (by omega)];have e:((((left - ((x.1.length:Nat):Int)) - ((wL bq x.2.2.2.2.2.1:Nat):Int)) - ((eH (x.2.2.2.2.2.2.1,x.2.2.2.2.2.2.2.1,x.2.2.2.2.2.2.2.2.1,x.2.2.2.2.2.2.2.2.2.1,()):Nat):Int)) - ((wL bF x.2.2.2.2.2.2.2.2.2.2.1:Nat):Int))=left - ((bp x:Nat):Int):=by omega
 rw [e]
theorem SM (x:((List UInt8)×Int×Int×Int×Int×(List gw)×Int×Int×(List R3)×(List R3)×(List cu)×Unit)) (h:bp x<=1048576):Ob x=some ((),(x,())):=by have hw:bp x=x.1.length + wL bq x.2.2.2.2.2.1 + eH (x.2.2.2.2.2.2.1,x.2.2.2.2.2.2.2.1,x.2.2.2.2.2.2.2.2.1,x.2.2.2.2.2.2.2.2.2.1,()) + wL bF x.2.2.2.2.2.2.2.2.2.2.1:=rfl;unfold Ob;rw [Ng x.2.2.2.2.2.1 (by omega)];rw [toRing (x.2.2.2.2.2.2.1,x.2.2.2.2.2.2.2.1,x.2.2.2.2.2.2.2.2.1,x.2.2.2.2.2.2.2.2.2.1,()) (by omega)];rw [Mv x.2.2.2.2.2.2.2.2.2.2.1 (by omega)];rfl
theorem Re (x:((List UInt8)×Int×Int×Int×Int×(List gw)×Int×Int×(List R3)×(List R3)×(List cu)×Unit)) (h:bp x<=1099511627776):Nc x x=some ((),((true,()),())):=by have hw:bp x=x.1.length + wL bq x.2.2.2.2.2.1 + eH (x.2.2.2.2.2.2.1,x.2.2.2.2.2.2.2.1,x.2.2.2.2.2.2.2.2.1,x.2.2.2.2.2.2.2.2.2.1,()) + wL bF x.2.2.2.2.2.2.2.2.2.2.1:=rfl;unfold Nc;simp only [bg,cU,Bool.not_true,cond_false,Option.bind_some,beq_self_eq_true,LH x.2.2.2.2.2.1 (by omega),Sj (x.2.2.2.2.2.2.1,x.2.2.2.2.2.2.2.1,x.2.2.2.2.2.2.2.2.1,x.2.2.2.2.2.2.2.2.2.1,()) (by omega),ME x.2.2.2.2.2.2.2.2.2.2.1 (by omega)]
def bP (x:((List UInt8)×Int×Int×Int×Int×(List gw)×Int×Int×(List R3)×(List R3)×(List cu)×Unit)):Nat:=1 + 1 + 1 + 1 + 1 + cL bb x.2.2.2.2.2.1 + 1 + 1 + cL (fun _=>1) x.2.2.2.2.2.2.2.2.1 + cL (fun _=>1) x.2.2.2.2.2.2.2.2.2.1 + cL bT x.2.2.2.2.2.2.2.2.2.2.1
noncomputable def gh (x:((List UInt8)×Int×Int×Int×Int×(List gw)×Int×Int×(List R3)×(List R3)×(List cu)×Unit)) (k:Int):((List UInt8)×Int×Int×Int×Int×(List gw)×Int×Int×(List R3)×(List R3)×(List cu)×Unit):=(mt k,(k + 1),((k + 1) + 1),(((k + 1) + 1) + 1),((((k + 1) + 1) + 1) + 1),fA fY bb x.2.2.2.2.2.1 (((((k + 1) + 1) + 1) + 1) + 1),((((((k + 1) + 1) + 1) + 1) + 1) + ((cL bb x.2.2.2.2.2.1:Nat):Int)),(((((((k + 1) + 1) + 1) + 1) + 1) + ((cL bb x.2.2.2.2.2.1:Nat):Int)) + 1),fA mkInt (fun _=>1) x.2.2.2.2.2.2.2.2.1 ((((((((k + 1) + 1) + 1) + 1) + 1) + ((cL bb x.2.2.2.2.2.1:Nat):Int)) + 1) + 1),fA mkInt (fun _=>1) x.2.2.2.2.2.2.2.2.2.1 (((((((((k + 1) + 1) + 1) + 1) + 1) + ((cL bb x.2.2.2.2.2.1:Nat):Int)) + 1) + 1) + ((cL (fun _=>1) x.2.2.2.2.2.2.2.2.1:Nat):Int)),fA fV bT x.2.2.2.2.2.2.2.2.2.2.1 ((((((((((k + 1) + 1) + 1) + 1) + 1) + ((cL bb x.2.2.2.2.2.1:Nat):Int)) + 1) + 1) + ((cL (fun _=>1) x.2.2.2.2.2.2.2.2.1:Nat):Int)) + ((cL (fun _=>1) x.2.2.2.2.2.2.2.2.2.1:Nat):Int)),())
theorem Hr (x:((List UInt8)×Int×Int×Int×Int×(List gw)×Int×Int×(List R3)×(List R3)×(List cu)×Unit)):bP x<=100 * (bp x + 1):=by
 have hw:bp x=x.1.length + wL bq x.2.2.2.2.2.1 + eH (x.2.2.2.2.2.2.1,x.2.2.2.2.2.2.2.1,x.2.2.2.2.2.2.2.2.1,x.2.2.2.2.2.2.2.2.2.1,()) + wL bF x.2.2.2.2.2.2.2.2.2.2.1:=rfl;have hc:bP x=1 + 1 + 1 + 1 + 1 + cL bb x.2.2.2.2.2.1 + 1 + 1 + cL (fun _=>1) x.2.2.2.2.2.2.2.2.1 + cL (fun _=>1) x.2.2.2.2.2.2.2.2.2.1 + cL bT x.2.2.2.2.2.2.2.2.2.2.1:=rfl;have hw6:eH (x.2.2.2.2.2.2.1,x.2.2.2.2.2.2.2.1,x.2.2.2.2.2.2.2.2.1,x.2.2.2.2.2.2.2.2.2.1,())=(x.2.2.2.2.2.2.1,x.2.2.2.2.2.2.2.1,x.2.2.2.2.2.2.2.2.1,x.2.2.2.2.2.2.2.2.2.1,()).2.2.1.length + (x.2.2.2.2.2.2.1,x.2.2.2.2.2.2.2.1,x.2.2.2.2.2.2.2.2.1,x.2.2.2.2.2.2.2.2.2.1,()).2.2.2.1.length:=rfl;have h5:=yK G6 x.2.2.2.2.2.1;have h8:=jK x.2.2.2.2.2.2.2.2.1;have h9:=jK x.2.2.2.2.2.2.2.2.2.1;have h10:=yK Fw x.2.2.2.2.2.2.2.2.2.2.1
 try dsimp only at *
 omega
theorem Aj (xs:List gO) (hb:xs.length<=aT/\∀ y∈xs,v8 y) (a:Int) (h0:0<=a) (h1:a<=1048576):KT xs a 0=some (if ((cL bp xs:Nat):Int)<=a then .inl (xs,a - (cL bp xs:Nat),(xs.length:Int),()) else .inr (-1,())):=by
 have h:=aH (step:=fun (x:(List gO)×Int×Int×Unit)=>oR x.1 x.2.1 x.2.2.1) xs (fun i (a:Int)=>(xs,a,((i:Nat):Int),())) (fun _ x (a:Int)=>bif decide ((bp x:Int)<=a) then Sum.inl (a - bp x) else .inr (.inr (-1,())))
  (fun a=> .inl (xs,a,(xs.length:Int),())) (fun _ a=>0<=a/\a<=1048576) (a0:=a) ⟨h0,h1⟩ (fun i x a hx ha=>by
    have hmem:=List.mem_of_getElem? hx;have hlt:=ai hx;show oR xs a (i:Int)=_;unfold oR;rw [aD hx,az hx,aV _ hx,RT x a ha.1 ha.2 (hb.2 x hmem),aJ (by omega)];dsimp only [cond_true,Option.bind_some];by_cases q:((bp x:Nat):Int)<=a
    . rw [bD q,ax (by omega),decide_eq_true q]; rfl
    . rw [a8 q,decide_eq_false q]; rfl) (fun i x a a' hx ha hf=>by
    by_cases q:((bp x:Nat):Int)<=a
    . rw [decide_eq_true q] at hf;simp only [cond_true,Sum.inl.injEq] at hf;omega
    . rw [decide_eq_false q] at hf;simp at hf) (fun a ha=>by
    show oR xs a (xs.length:Int)=_;unfold oR;rw [aw rfl]; rfl)
 rw [so _ _ _ _ _ _ h0] at h;refine Eq.trans h ?_;split <;> rfl
theorem Fj (xs:List gO) (left:Int) (h0:0<=left) (h1:left<=1048576) (hb:xs.length<=aT/\∀ y∈xs,v8 y):Oj xs left=some ((),((CJ left (wL bp xs),()),())):=by
 have hw:wL bp xs=xs.length + cL bp xs:=rfl;unfold Oj;dsimp only;rw [dH (s:=xs) (left:=left) (by omega) (by omega) hb.1];by_cases q:((xs.length:Nat):Int)<=left
 . rw [ax (by omega)];dsimp only [cond_false];rw [Aj xs hb _ (by omega) (by omega)];by_cases q2:((cL bp xs:Nat):Int)<=left - (xs.length:Int)
   . rw [if_pos q2,bD (by omega)];dsimp only [Option.bind_some,Sum.elim_inl];have e:left - (xs.length:Int) - (cL bp xs:Nat)=left - ((wL bp xs:Nat):Int):=by omega
     rw [e]
   . rw [if_neg q2,a8 (by omega)]; rfl
 . rw [aF (by omega),a8 (by omega)]; rfl
theorem Mu (xs:List gO) (h:wL bp xs<=1048576):LK xs=some ((),((xs,()),())):=by
 have hb:aT=140737488355328:=rfl;have hw:wL bp xs=xs.length + cL bp xs:=rfl;unfold LK;dsimp only;rw [px (by decide) (by omega),jz]
 have h:=aH (step:=fun (x:(List gO)×(List dt)×Int×Unit)=>pM x.1 x.2.1 x.2.2.1) xs (fun i (a:List gO)=>(xs,a ++ List.replicate (xs.length - i) d59,((i:Nat):Int),())) (fun _ x (a:List gO)=>Sum.inl (a ++ [x]))
  (fun a=> .inl (xs,a,(xs.length:Int),())) (fun i a=>a.length=i) (a0:=[]) rfl (fun i x a hx ha=>by
    have hlt:=ai hx;have hcm:=dz bp hx;show pM xs (a ++ List.replicate (xs.length - i) d59) (i:Int)=_;unfold pM;obtain ⟨q,hq⟩:∃ q,xs.length - i=q + 1:=⟨xs.length - i - 1,by omega⟩;have hq':xs.length - (i + 1)=q:=by omega
    rw [hq,List.replicate_succ,aD hx,az hx,aV _ hx,SM x (by omega)];dsimp only [cond_true,Option.bind_some];simp only [eO ha,kq _ ha,eF ha,aJ (show i<=aT by omega),hq',cond_true,List.append_assoc,List.singleton_append]) (fun i x a a' hx ha hf=>by
    simp only [Sum.inl.injEq] at hf;rw [<- hf,List.length_append,ha]; rfl) (fun a ha=>by
    show pM xs (a ++ List.replicate (xs.length - xs.length) d59) (xs.length:Int)=_;unfold pM;rw [aw rfl,Nat.sub_self,List.replicate_zero,List.append_nil]; rfl)
 rw [fH] at h;have h':JZ xs (List.replicate xs.length d59) 0=_:=h;rw [h']; rfl
theorem MX (xs:List dt) (h:wL bp xs<=1099511627776):LU xs xs=some ((),((true,()),())):=by
 have hb:aT=140737488355328:=rfl;have hw:wL bp xs=xs.length + cL bp xs:=rfl;unfold LU;rw [bg];have h:=aI (step:=fun (x:(List dt)×(List dt)×Int×Unit)=>pz x.1 x.2.1 x.2.2.1) xs (fun i (_:Unit)=>(xs,xs,((i:Nat):Int),())) (fun _ x _=>Sum.inl ()) (fun _=> .inl (xs,xs,(xs.length:Int),())) (a0:=()) (fun i x a hx=>by
  have hlt:=ai hx;have hcm:=dz bp hx;show pz xs xs (i:Int)=_;unfold pz;rw [aD hx,az hx,aV _ hx,Re x (by omega),aJ (by omega)]; rfl) (fun a=>by
  show pz xs xs (xs.length:Int)=_;unfold pz;rw [aw rfl]; rfl)
 rw [bZ (fun _ a=>a)] at h;have h':IV xs xs 0=_:=h;rw [h']; rfl
theorem Gm (xs:List dt) (k:Int) (h1:1<=k) (h2:k + ((cL bP xs:Nat):Int)<=1099511627776) (h3:wL bp xs<=1099511627776):Xg xs k=some (((fA gh bP xs k,()),()),((k + ((cL bP xs:Nat):Int),()),())):=by
 have hb:aT=140737488355328:=rfl;have hwl:wL bp xs=xs.length + cL bp xs:=rfl;unfold Xg
 have h:=aH (step:=fun (x:(List dt)×Int×Int×Unit)=>vG x.1 x.2.1 x.2.2.1) xs (fun i (a:List dt×Int)=>(a.1 ++ xs.drop i,a.2,((i:Nat):Int),())) (fun _ x (a:List dt×Int)=>Sum.inl (a.1 ++ [gh x a.2],a.2 + ((bP x:Nat):Int)))
  (fun a=> .inl (a.1,a.2,(xs.length:Int),())) (fun i a=>a.1.length=i/\1<=a.2/\a.2 + ((cL bP (xs.drop i):Nat):Int)<=1099511627776) (a0:=([],k)) ⟨rfl,h1,h2⟩ (fun i x a hx ha=>by
    have hlt:=ai hx;have hcm:=dz bp hx;obtain ⟨hd,ha1,ha2⟩:=ha;rw [cS _ hx] at ha2;have hc:bP x=1 + 1 + 1 + 1 + 1 + cL bb x.2.2.2.2.2.1 + 1 + 1 + cL (fun _=>1) x.2.2.2.2.2.2.2.2.1 + cL (fun _=>1) x.2.2.2.2.2.2.2.2.2.1 + cL bT x.2.2.2.2.2.2.2.2.2.2.1:=rfl;have hw:bp x=x.1.length + wL bq x.2.2.2.2.2.1 + eH (x.2.2.2.2.2.2.1,x.2.2.2.2.2.2.2.1,x.2.2.2.2.2.2.2.2.1,x.2.2.2.2.2.2.2.2.2.1,()) + wL bF x.2.2.2.2.2.2.2.2.2.2.1:=rfl;have hw6:eH (x.2.2.2.2.2.2.1,x.2.2.2.2.2.2.2.1,x.2.2.2.2.2.2.2.2.1,x.2.2.2.2.2.2.2.2.2.1,())=(x.2.2.2.2.2.2.1,x.2.2.2.2.2.2.2.1,x.2.2.2.2.2.2.2.2.1,x.2.2.2.2.2.2.2.2.2.1,()).2.2.1.length + (x.2.2.2.2.2.2.1,x.2.2.2.2.2.2.2.1,x.2.2.2.2.2.2.2.2.1,x.2.2.2.2.2.2.2.2.2.1,()).2.2.2.1.length:=rfl;have a0:aj .i64 a.2 1=a.2 + 1:=ay (by omega) (by omega);have a1:aj .i64 (a.2 + 1) 1=(a.2 + 1) + 1:=ay (by omega) (by omega);have a2:aj .i64 ((a.2 + 1) + 1) 1=((a.2 + 1) + 1) + 1:=ay (by omega) (by omega);have a3:aj .i64 (((a.2 + 1) + 1) + 1) 1=(((a.2 + 1) + 1) + 1) + 1:=ay (by omega) (by omega);have a4:aj .i64 ((((a.2 + 1) + 1) + 1) + 1) 1=((((a.2 + 1) + 1) + 1) + 1) + 1:=ay (by omega) (by omega);have m5:=Gc x.2.2.2.2.2.1 (((((a.2 + 1) + 1) + 1) + 1) + 1) (by omega) (by omega) (by omega);have a6:aj .i64 ((((((a.2 + 1) + 1) + 1) + 1) + 1) + ((cL bb x.2.2.2.2.2.1:Nat):Int)) 1=((((((a.2 + 1) + 1) + 1) + 1) + 1) + ((cL bb x.2.2.2.2.2.1:Nat):Int)) + 1:=ay (by omega) (by omega);have a7:aj .i64 (((((((a.2 + 1) + 1) + 1) + 1) + 1) + ((cL bb x.2.2.2.2.2.1:Nat):Int)) + 1) 1=(((((((a.2 + 1) + 1) + 1) + 1) + 1) + ((cL bb x.2.2.2.2.2.1:Nat):Int)) + 1) + 1:=ay (by omega) (by omega);have m8:=xw x.2.2.2.2.2.2.2.2.1 ((((((((a.2 + 1) + 1) + 1) + 1) + 1) + ((cL bb x.2.2.2.2.2.1:Nat):Int)) + 1) + 1) (by omega) (by omega);have m9:=xw x.2.2.2.2.2.2.2.2.2.1 (((((((((a.2 + 1) + 1) + 1) + 1) + 1) + ((cL bb x.2.2.2.2.2.1:Nat):Int)) + 1) + 1) + ((cL (fun _=>1) x.2.2.2.2.2.2.2.2.1:Nat):Int)) (by omega) (by omega);have m10:=Gs x.2.2.2.2.2.2.2.2.2.2.1 ((((((((((a.2 + 1) + 1) + 1) + 1) + 1) + ((cL bb x.2.2.2.2.2.1:Nat):Int)) + 1) + 1) + ((cL (fun _=>1) x.2.2.2.2.2.2.2.2.1:Nat):Int)) + ((cL (fun _=>1) x.2.2.2.2.2.2.2.2.2.1:Nat):Int)) (by omega) (by omega) (by omega);show vG (a.1 ++ xs.drop i) a.2 (i:Int)=_;unfold vG;have e:(((((((((((a.2 + 1) + 1) + 1) + 1) + 1) + ((cL bb x.2.2.2.2.2.1:Nat):Int)) + 1) + 1) + ((cL (fun _=>1) x.2.2.2.2.2.2.2.2.1:Nat):Int)) + ((cL (fun _=>1) x.2.2.2.2.2.2.2.2.2.1:Nat):Int)) + ((cL bT x.2.2.2.2.2.2.2.2.2.2.1:Nat):Int))=a.2 + ((bP x:Nat):Int):=by omega
    simp only [iN hx,lA hd,eO hd,eF hd,kq _ hd,aJ (show i<=aT by omega),cond_true,Option.bind_some,a0,text (k:=a.2) (by omega) (by omega),a1,a2,a3,a4,m5,a6,a7,m8,m9,m10];rw [e,List.append_assoc]; rfl) (fun i x a a' hx ha hf=>by
    obtain ⟨hd,ha1,ha2⟩:=ha;rw [cS _ hx] at ha2;simp only [Sum.inl.injEq] at hf;subst hf;refine ⟨by rw [List.length_append,hd]; rfl,?_,?_⟩
    . show 1<=a.2 + ((bP x:Nat):Int); omega
    . show a.2 + ((bP x:Nat):Int) + _<=_; omega) (fun a ha=>by
    show vG (a.1 ++ xs.drop xs.length) a.2 (xs.length:Int)=_;unfold vG;rw [List.drop_length,List.append_nil,aw ha.1]; rfl)
 rw [mR gh bP] at h;have h':O7 xs k 0=_:=h;rw [h']; rfl
theorem F3 (xs:List dt) (k:Int) (h1:1<=k) (h2:k + ((cL bP xs:Nat):Int)<=1099511627776) (h3:wL bp xs<=1099511627776):WS (fA gh bP xs k) k=some ((),((k + ((cL bP xs:Nat):Int),()),())):=by
 have hb:aT=140737488355328:=rfl;have hwl:wL bp xs=xs.length + cL bp xs:=rfl;unfold WS
 have h:=aH (step:=fun (x:(List dt)×Int×Int×Unit)=>u0 x.1 x.2.1 x.2.2.1) xs (fun i (a:Int)=>(fA gh bP xs k,a,((i:Nat):Int),())) (fun _ x (a:Int)=>Sum.inl (a + ((bP x:Nat):Int)))
  (fun a=> .inl (fA gh bP xs k,a,(xs.length:Int),())) (fun i a=>a=k + ((cL bP (xs.take i):Nat):Int)) (a0:=k) (by simp [cL]) (fun i x a hx ha=>by
    have hlt:=ai hx;have hcm:=dz bp hx;have hs:=jT bP xs i;have hy:=iK gh bP xs k i x hx;rw [cS _ hx] at hs;rw [<- ha] at hy;have hc:bP x=1 + 1 + 1 + 1 + 1 + cL bb x.2.2.2.2.2.1 + 1 + 1 + cL (fun _=>1) x.2.2.2.2.2.2.2.2.1 + cL (fun _=>1) x.2.2.2.2.2.2.2.2.2.1 + cL bT x.2.2.2.2.2.2.2.2.2.2.1:=rfl;have hw:bp x=x.1.length + wL bq x.2.2.2.2.2.1 + eH (x.2.2.2.2.2.2.1,x.2.2.2.2.2.2.2.1,x.2.2.2.2.2.2.2.2.1,x.2.2.2.2.2.2.2.2.2.1,()) + wL bF x.2.2.2.2.2.2.2.2.2.2.1:=rfl;have hw6:eH (x.2.2.2.2.2.2.1,x.2.2.2.2.2.2.2.1,x.2.2.2.2.2.2.2.2.1,x.2.2.2.2.2.2.2.2.2.1,())=(x.2.2.2.2.2.2.1,x.2.2.2.2.2.2.2.1,x.2.2.2.2.2.2.2.2.1,x.2.2.2.2.2.2.2.2.2.1,()).2.2.1.length + (x.2.2.2.2.2.2.1,x.2.2.2.2.2.2.2.1,x.2.2.2.2.2.2.2.2.1,x.2.2.2.2.2.2.2.2.2.1,()).2.2.2.1.length:=rfl;have a0:aj .i64 a 1=a + 1:=ay (by omega) (by omega);have a1:aj .i64 (a + 1) 1=(a + 1) + 1:=ay (by omega) (by omega);have a2:aj .i64 ((a + 1) + 1) 1=((a + 1) + 1) + 1:=ay (by omega) (by omega);have a3:aj .i64 (((a + 1) + 1) + 1) 1=(((a + 1) + 1) + 1) + 1:=ay (by omega) (by omega);have a4:aj .i64 ((((a + 1) + 1) + 1) + 1) 1=((((a + 1) + 1) + 1) + 1) + 1:=ay (by omega) (by omega);have m5:=Hf x.2.2.2.2.2.1 (((((a + 1) + 1) + 1) + 1) + 1) (by omega) (by omega) (by omega);have n5:au ((((((a + 1) + 1) + 1) + 1) + 1) + ((cL bb x.2.2.2.2.2.1:Nat):Int)) 0=false:=ax (by omega);have a6:aj .i64 ((((((a + 1) + 1) + 1) + 1) + 1) + ((cL bb x.2.2.2.2.2.1:Nat):Int)) 1=((((((a + 1) + 1) + 1) + 1) + 1) + ((cL bb x.2.2.2.2.2.1:Nat):Int)) + 1:=ay (by omega) (by omega);have a7:aj .i64 (((((((a + 1) + 1) + 1) + 1) + 1) + ((cL bb x.2.2.2.2.2.1:Nat):Int)) + 1) 1=(((((((a + 1) + 1) + 1) + 1) + 1) + ((cL bb x.2.2.2.2.2.1:Nat):Int)) + 1) + 1:=ay (by omega) (by omega);have m8:=wH x.2.2.2.2.2.2.2.2.1 ((((((((a + 1) + 1) + 1) + 1) + 1) + ((cL bb x.2.2.2.2.2.1:Nat):Int)) + 1) + 1) (by omega) (by omega);have n8:au (((((((((a + 1) + 1) + 1) + 1) + 1) + ((cL bb x.2.2.2.2.2.1:Nat):Int)) + 1) + 1) + ((cL (fun _=>1) x.2.2.2.2.2.2.2.2.1:Nat):Int)) 0=false:=ax (by omega);have m9:=wH x.2.2.2.2.2.2.2.2.2.1 (((((((((a + 1) + 1) + 1) + 1) + 1) + ((cL bb x.2.2.2.2.2.1:Nat):Int)) + 1) + 1) + ((cL (fun _=>1) x.2.2.2.2.2.2.2.2.1:Nat):Int)) (by omega) (by omega);have n9:au ((((((((((a + 1) + 1) + 1) + 1) + 1) + ((cL bb x.2.2.2.2.2.1:Nat):Int)) + 1) + 1) + ((cL (fun _=>1) x.2.2.2.2.2.2.2.2.1:Nat):Int)) + ((cL (fun _=>1) x.2.2.2.2.2.2.2.2.2.1:Nat):Int)) 0=false:=ax (by omega);have m10:=FB x.2.2.2.2.2.2.2.2.2.2.1 ((((((((((a + 1) + 1) + 1) + 1) + 1) + ((cL bb x.2.2.2.2.2.1:Nat):Int)) + 1) + 1) + ((cL (fun _=>1) x.2.2.2.2.2.2.2.2.1:Nat):Int)) + ((cL (fun _=>1) x.2.2.2.2.2.2.2.2.2.1:Nat):Int)) (by omega) (by omega) (by omega);have n10:au (((((((((((a + 1) + 1) + 1) + 1) + 1) + ((cL bb x.2.2.2.2.2.1:Nat):Int)) + 1) + 1) + ((cL (fun _=>1) x.2.2.2.2.2.2.2.2.1:Nat):Int)) + ((cL (fun _=>1) x.2.2.2.2.2.2.2.2.2.1:Nat):Int)) + ((cL bT x.2.2.2.2.2.2.2.2.2.2.1:Nat):Int)) 0=false:=ax (by omega);show u0 (fA gh bP xs k) a (i:Int)=_;unfold u0;have e:(((((((((((a + 1) + 1) + 1) + 1) + 1) + ((cL bb x.2.2.2.2.2.1:Nat):Int)) + 1) + 1) + ((cL (fun _=>1) x.2.2.2.2.2.2.2.2.1:Nat):Int)) + ((cL (fun _=>1) x.2.2.2.2.2.2.2.2.2.1:Nat):Int)) + ((cL bT x.2.2.2.2.2.2.2.2.2.2.1:Nat):Int))=a + ((bP x:Nat):Int):=by omega
    simp only [aD hy,az hy,aV _ hy,aJ (show i<=aT by omega),gh,cond_true,cond_false,Option.bind_some,cU,bg,Bool.not_true,a0,text (k:=a) (by omega) (by omega),a1,a2,a3,a4,m5,n5,a6,a7,m8,n8,m9,n9,m10,n10];rw [e]) (fun i x a a' hx ha hf=>by
    simp only [Sum.inl.injEq] at hf;rw [lF _ hx];omega) (fun a ha=>by
    show u0 (fA gh bP xs k) a (xs.length:Int)=_;unfold u0;rw [aw (kg _ _ _ _)]; rfl)
 rw [ke bP] at h;have h':Ph (fA gh bP xs k) k 0=_:=h;rw [h']; rfl
def aN (x:(Int×(List gO)×Unit)):Nat:=wL bp x.2.1
def mP (x:(Int×(List gO)×Unit)):Prop:=(x.2.1.length<=aT/\∀ y∈x.2.1,v8 y)
def BK (x:(Int×(List gO)×Unit)):Prop:=(∀ y∈x.2.1,J6 y)
theorem IQ (x:(Int×(List gO)×Unit)) (left:Int) (h0:0<=left) (h1:left<=1048576) (hb:mP x):Xk x left=some ((),((CJ left (aN x),()),())):=by
 have hw:aN x=wL bp x.2.1:=rfl;unfold Xk
 try dsimp only
 by_cases q0:((wL bp x.2.1:Nat):Int)<=left;rotate_left
 . rw [Fj x.2.1 left (by omega) (by omega) (hb),a8 q0,a8 (by omega)]; rfl
 rw [Fj x.2.1 left (by omega) (by omega) (hb),bD q0]; dsimp only [Option.bind_some]; rw [ax (by omega)]; dsimp only [cond_false];rw [bD (by omega)];have e:(left - ((wL bp x.2.1:Nat):Int))=left - ((aN x:Nat):Int):=by omega
 rw [e]
theorem JT (x:(Int×(List gO)×Unit)) (h:aN x<=1048576):WX x=some ((),(x,())):=by have hw:aN x=wL bp x.2.1:=rfl;unfold WX;rw [Mu x.2.1 (by omega)];rfl
theorem IW (x:(Int×(List gO)×Unit)) (h:aN x<=1099511627776):Xj x x=some ((),((true,()),())):=by have hw:aN x=wL bp x.2.1:=rfl;unfold Xj;simp only [bg,cU,Bool.not_true,cond_false,Option.bind_some,beq_self_eq_true,MX x.2.1 (by omega)]
def aX (x:(Int×(List gO)×Unit)):Nat:=1 + cL bP x.2.1
noncomputable def dC (x:(Int×(List gO)×Unit)) (k:Int):(Int×(List gO)×Unit):=(k,fA gh bP x.2.1 (k + 1),())
theorem BP (x:(Int×(List gO)×Unit)):aX x<=100 * (aN x + 1):=by
 have hw:aN x=wL bp x.2.1:=rfl;have hc:aX x=1 + cL bP x.2.1:=rfl;have h1:=yK Hr x.2.1
 try dsimp only at *
 omega
def bm (x:((List R5)×Int×(List R3)×Int×Int×Int×Int×Int×(List R5)×Unit)):Nat:=x.1.length + x.2.2.1.length + x.2.2.2.2.2.2.2.2.1.length
def xm (x:((List R5)×Int×(List R3)×Int×Int×Int×Int×Int×(List R5)×Unit)):Prop:=x.1.length<=aT/\x.2.2.1.length<=aT/\x.2.2.2.2.2.2.2.2.1.length<=aT
def De (x:((List R5)×Int×(List R3)×Int×Int×Int×Int×Int×(List R5)×Unit)):Prop:=(∀ y∈x.1,lJ .u8 y.1)/\(∀ y∈x.2.2.2.2.2.2.2.2.1,lJ .u8 y.1)
theorem Qi (x:((List R5)×Int×(List R3)×Int×Int×Int×Int×Int×(List R5)×Unit)) (left:Int) (h0:0<=left) (h1:left<=1048576) (hb:xm x):W5 x left=some ((),((CJ left (bm x),()),())):=by
 have hw:bm x=x.1.length + x.2.2.1.length + x.2.2.2.2.2.2.2.2.1.length:=rfl;unfold W5
 try dsimp only
 by_cases q0:((x.1.length:Nat):Int)<=left;rotate_left
 . rw [na x.1 left (by omega) (by omega) (hb.1),a8 q0,a8 (by omega)]; rfl
 rw [na x.1 left (by omega) (by omega) (hb.1),bD q0]; dsimp only [Option.bind_some]; rw [ax (by omega)]; dsimp only [cond_false];by_cases q1:((x.2.2.1.length:Nat):Int)<=(left - ((x.1.length:Nat):Int));rotate_left
 . rw [sG x.2.2.1 (left - ((x.1.length:Nat):Int)) (by omega) (by omega) (hb.2.1),a8 q1,a8 (by omega)]; rfl
 rw [sG x.2.2.1 (left - ((x.1.length:Nat):Int)) (by omega) (by omega) (hb.2.1),bD q1]; dsimp only [Option.bind_some]; rw [ax (by omega)]; dsimp only [cond_false];by_cases q2:((x.2.2.2.2.2.2.2.2.1.length:Nat):Int)<=((left - ((x.1.length:Nat):Int)) - ((x.2.2.1.length:Nat):Int));rotate_left
 . rw [na x.2.2.2.2.2.2.2.2.1 ((left - ((x.1.length:Nat):Int)) - ((x.2.2.1.length:Nat):Int)) (by omega) (by omega) (hb.2.2),a8 q2,a8 (by omega)]; rfl
 rw [na x.2.2.2.2.2.2.2.2.1 ((left - ((x.1.length:Nat):Int)) - ((x.2.2.1.length:Nat):Int)) (by omega) (by omega) (hb.2.2),bD q2]; dsimp only [Option.bind_some]; rw [ax (by omega)]; dsimp only [cond_false];rw [bD (by omega)];have e:(((left - ((x.1.length:Nat):Int)) - ((x.2.2.1.length:Nat):Int)) - ((x.2.2.2.2.2.2.2.2.1.length:Nat):Int))=left - ((bm x:Nat):Int):=by omega
 rw [e]
theorem toTask (x:((List R5)×Int×(List R3)×Int×Int×Int×Int×Int×(List R5)×Unit)) (h:bm x<=1048576):Xo x=some ((),(x,())):=by have hw:bm x=x.1.length + x.2.2.1.length + x.2.2.2.2.2.2.2.2.1.length:=rfl;unfold Xo;rw [uh x.1 (by omega)];rw [DU x.2.2.1 (by omega)];rw [uh x.2.2.2.2.2.2.2.2.1 (by omega)];rfl
theorem Sz (x:((List R5)×Int×(List R3)×Int×Int×Int×Int×Int×(List R5)×Unit)) (h:bm x<=1099511627776):Xw x x=some ((),((true,()),())):=by have hw:bm x=x.1.length + x.2.2.1.length + x.2.2.2.2.2.2.2.2.1.length:=rfl;unfold Xw;simp only [bg,cU,Bool.not_true,cond_false,Option.bind_some,beq_self_eq_true,uE x.1 (by omega),DT x.2.2.1 (by omega),uE x.2.2.2.2.2.2.2.2.1 (by omega)]
def bV (x:((List R5)×Int×(List R3)×Int×Int×Int×Int×Int×(List R5)×Unit)):Nat:=cL (fun _=>1) x.1 + 1 + cL (fun _=>1) x.2.2.1 + 1 + 1 + 1 + 1 + 1 + cL (fun _=>1) x.2.2.2.2.2.2.2.2.1
noncomputable def gb (x:((List R5)×Int×(List R3)×Int×Int×Int×Int×Int×(List R5)×Unit)) (k:Int):((List R5)×Int×(List R3)×Int×Int×Int×Int×Int×(List R5)×Unit):=(fA gN (fun _=>1) x.1 k,(k + ((cL (fun _=>1) x.1:Nat):Int)),fA mkInt (fun _=>1) x.2.2.1 ((k + ((cL (fun _=>1) x.1:Nat):Int)) + 1),(((k + ((cL (fun _=>1) x.1:Nat):Int)) + 1) + ((cL (fun _=>1) x.2.2.1:Nat):Int)),((((k + ((cL (fun _=>1) x.1:Nat):Int)) + 1) + ((cL (fun _=>1) x.2.2.1:Nat):Int)) + 1),(((((k + ((cL (fun _=>1) x.1:Nat):Int)) + 1) + ((cL (fun _=>1) x.2.2.1:Nat):Int)) + 1) + 1),((((((k + ((cL (fun _=>1) x.1:Nat):Int)) + 1) + ((cL (fun _=>1) x.2.2.1:Nat):Int)) + 1) + 1) + 1),(((((((k + ((cL (fun _=>1) x.1:Nat):Int)) + 1) + ((cL (fun _=>1) x.2.2.1:Nat):Int)) + 1) + 1) + 1) + 1),fA gN (fun _=>1) x.2.2.2.2.2.2.2.2.1 ((((((((k + ((cL (fun _=>1) x.1:Nat):Int)) + 1) + ((cL (fun _=>1) x.2.2.1:Nat):Int)) + 1) + 1) + 1) + 1) + 1),())
theorem Fs (x:((List R5)×Int×(List R3)×Int×Int×Int×Int×Int×(List R5)×Unit)):bV x<=100 * (bm x + 1):=by
 have hw:bm x=x.1.length + x.2.2.1.length + x.2.2.2.2.2.2.2.2.1.length:=rfl;have hc:bV x=cL (fun _=>1) x.1 + 1 + cL (fun _=>1) x.2.2.1 + 1 + 1 + 1 + 1 + 1 + cL (fun _=>1) x.2.2.2.2.2.2.2.2.1:=rfl;have h0:=jK x.1;have h2:=jK x.2.2.1;have h8:=jK x.2.2.2.2.2.2.2.2.1
 try dsimp only at *
 omega
theorem uW (xs:List pU) (hb:xs.length<=aT/\∀ y∈xs,mP y) (a:Int) (h0:0<=a) (h1:a<=1048576):OG xs a 0=some (if ((cL aN xs:Nat):Int)<=a then .inl (xs,a - (cL aN xs:Nat),(xs.length:Int),()) else .inr (-1,())):=by
 have h:=aH (step:=fun (x:(List pU)×Int×Int×Unit)=>wG x.1 x.2.1 x.2.2.1) xs (fun i (a:Int)=>(xs,a,((i:Nat):Int),())) (fun _ x (a:Int)=>bif decide ((aN x:Int)<=a) then Sum.inl (a - aN x) else .inr (.inr (-1,())))
  (fun a=> .inl (xs,a,(xs.length:Int),())) (fun _ a=>0<=a/\a<=1048576) (a0:=a) ⟨h0,h1⟩ (fun i x a hx ha=>by
    have hmem:=List.mem_of_getElem? hx;have hlt:=ai hx;show wG xs a (i:Int)=_;unfold wG;rw [aD hx,az hx,aV _ hx,IQ x a ha.1 ha.2 (hb.2 x hmem),aJ (by omega)];dsimp only [cond_true,Option.bind_some];by_cases q:((aN x:Nat):Int)<=a
    . rw [bD q,ax (by omega),decide_eq_true q]; rfl
    . rw [a8 q,decide_eq_false q]; rfl) (fun i x a a' hx ha hf=>by
    by_cases q:((aN x:Nat):Int)<=a
    . rw [decide_eq_true q] at hf;simp only [cond_true,Sum.inl.injEq] at hf;omega
    . rw [decide_eq_false q] at hf;simp at hf) (fun a ha=>by
    show wG xs a (xs.length:Int)=_;unfold wG;rw [aw rfl]; rfl)
 rw [so _ _ _ _ _ _ h0] at h;refine Eq.trans h ?_;split <;> rfl
theorem ym (xs:List pU) (left:Int) (h0:0<=left) (h1:left<=1048576) (hb:xs.length<=aT/\∀ y∈xs,mP y):g23 xs left=some ((),((CJ left (wL aN xs),()),())):=by
 have hw:wL aN xs=xs.length + cL aN xs:=rfl;unfold g23;dsimp only;rw [dH (s:=xs) (left:=left) (by omega) (by omega) hb.1];by_cases q:((xs.length:Nat):Int)<=left
 . rw [ax (by omega)];dsimp only [cond_false];rw [uW xs hb _ (by omega) (by omega)];by_cases q2:((cL aN xs:Nat):Int)<=left - (xs.length:Int)
   . rw [if_pos q2,bD (by omega)];dsimp only [Option.bind_some,Sum.elim_inl];have e:left - (xs.length:Int) - (cL aN xs:Nat)=left - ((wL aN xs:Nat):Int):=by omega
     rw [e]
   . rw [if_neg q2,a8 (by omega)]; rfl
 . rw [aF (by omega),a8 (by omega)]; rfl
theorem Gu (xs:List pU) (h:wL aN xs<=1048576):XB xs=some ((),((xs,()),())):=by
 have hb:aT=140737488355328:=rfl;have hw:wL aN xs=xs.length + cL aN xs:=rfl;unfold XB;dsimp only;rw [px (by decide) (by omega),jz]
 have h:=aH (step:=fun (x:(List pU)×(List ea)×Int×Unit)=>vI x.1 x.2.1 x.2.2.1) xs (fun i (a:List pU)=>(xs,a ++ List.replicate (xs.length - i) d89,((i:Nat):Int),())) (fun _ x (a:List pU)=>Sum.inl (a ++ [x]))
  (fun a=> .inl (xs,a,(xs.length:Int),())) (fun i a=>a.length=i) (a0:=[]) rfl (fun i x a hx ha=>by
    have hlt:=ai hx;have hcm:=dz aN hx;show vI xs (a ++ List.replicate (xs.length - i) d89) (i:Int)=_;unfold vI;obtain ⟨q,hq⟩:∃ q,xs.length - i=q + 1:=⟨xs.length - i - 1,by omega⟩;have hq':xs.length - (i + 1)=q:=by omega
    rw [hq,List.replicate_succ,aD hx,az hx,aV _ hx,JT x (by omega)];dsimp only [cond_true,Option.bind_some];simp only [eO ha,kq _ ha,eF ha,aJ (show i<=aT by omega),hq',cond_true,List.append_assoc,List.singleton_append]) (fun i x a a' hx ha hf=>by
    simp only [Sum.inl.injEq] at hf;rw [<- hf,List.length_append,ha]; rfl) (fun a ha=>by
    show vI xs (a ++ List.replicate (xs.length - xs.length) d89) (xs.length:Int)=_;unfold vI;rw [aw rfl,Nat.sub_self,List.replicate_zero,List.append_nil]; rfl)
 rw [fH] at h;have h':Pg xs (List.replicate xs.length d89) 0=_:=h;rw [h']; rfl
theorem G9 (xs:List ea) (h:wL aN xs<=1099511627776):WW xs xs=some ((),((true,()),())):=by
 have hb:aT=140737488355328:=rfl;have hw:wL aN xs=xs.length + cL aN xs:=rfl;unfold WW;rw [bg];have h:=aI (step:=fun (x:(List ea)×(List ea)×Int×Unit)=>we x.1 x.2.1 x.2.2.1) xs (fun i (_:Unit)=>(xs,xs,((i:Nat):Int),())) (fun _ x _=>Sum.inl ()) (fun _=> .inl (xs,xs,(xs.length:Int),())) (a0:=()) (fun i x a hx=>by
  have hlt:=ai hx;have hcm:=dz aN hx;show we xs xs (i:Int)=_;unfold we;rw [aD hx,az hx,aV _ hx,IW x (by omega),aJ (by omega)]; rfl) (fun a=>by
  show we xs xs (xs.length:Int)=_;unfold we;rw [aw rfl]; rfl)
 rw [bZ (fun _ a=>a)] at h;have h':Px xs xs 0=_:=h;rw [h']; rfl
theorem Cy (xs:List ea) (k:Int) (h1:1<=k) (h2:k + ((cL aX xs:Nat):Int)<=1099511627776) (h3:wL aN xs<=1099511627776):Xd xs k=some (((fA dC aX xs k,()),()),((k + ((cL aX xs:Nat):Int),()),())):=by
 have hb:aT=140737488355328:=rfl;have hwl:wL aN xs=xs.length + cL aN xs:=rfl;unfold Xd
 have h:=aH (step:=fun (x:(List ea)×Int×Int×Unit)=>xd x.1 x.2.1 x.2.2.1) xs (fun i (a:List ea×Int)=>(a.1 ++ xs.drop i,a.2,((i:Nat):Int),())) (fun _ x (a:List ea×Int)=>Sum.inl (a.1 ++ [dC x a.2],a.2 + ((aX x:Nat):Int)))
  (fun a=> .inl (a.1,a.2,(xs.length:Int),())) (fun i a=>a.1.length=i/\1<=a.2/\a.2 + ((cL aX (xs.drop i):Nat):Int)<=1099511627776) (a0:=([],k)) ⟨rfl,h1,h2⟩ (fun i x a hx ha=>by
    have hlt:=ai hx;have hcm:=dz aN hx;obtain ⟨hd,ha1,ha2⟩:=ha;rw [cS _ hx] at ha2;have hc:aX x=1 + cL bP x.2.1:=rfl;have hw:aN x=wL bp x.2.1:=rfl;have a0:aj .i64 a.2 1=a.2 + 1:=ay (by omega) (by omega);have m1:=Gm x.2.1 (a.2 + 1) (by omega) (by omega) (by omega);show xd (a.1 ++ xs.drop i) a.2 (i:Int)=_;unfold xd;have e:((a.2 + 1) + ((cL bP x.2.1:Nat):Int))=a.2 + ((aX x:Nat):Int):=by omega
    simp only [iN hx,lA hd,eO hd,eF hd,kq _ hd,aJ (show i<=aT by omega),cond_true,Option.bind_some,a0,m1];rw [e,List.append_assoc]; rfl) (fun i x a a' hx ha hf=>by
    obtain ⟨hd,ha1,ha2⟩:=ha;rw [cS _ hx] at ha2;simp only [Sum.inl.injEq] at hf;subst hf;refine ⟨by rw [List.length_append,hd]; rfl,?_,?_⟩
    . show 1<=a.2 + ((aX x:Nat):Int); omega
    . show a.2 + ((aX x:Nat):Int) + _<=_; omega) (fun a ha=>by
    show xd (a.1 ++ xs.drop xs.length) a.2 (xs.length:Int)=_;unfold xd;rw [List.drop_length,List.append_nil,aw ha.1]; rfl)
 rw [mR dC aX] at h;have h':Pe xs k 0=_:=h;rw [h']; rfl
theorem Bo (xs:List ea) (k:Int) (h1:1<=k) (h2:k + ((cL aX xs:Nat):Int)<=1099511627776) (h3:wL aN xs<=1099511627776):Xs (fA dC aX xs k) k=some ((),((k + ((cL aX xs:Nat):Int),()),())):=by
 have hb:aT=140737488355328:=rfl;have hwl:wL aN xs=xs.length + cL aN xs:=rfl;unfold Xs
 have h:=aH (step:=fun (x:(List ea)×Int×Int×Unit)=>vh x.1 x.2.1 x.2.2.1) xs (fun i (a:Int)=>(fA dC aX xs k,a,((i:Nat):Int),())) (fun _ x (a:Int)=>Sum.inl (a + ((aX x:Nat):Int)))
  (fun a=> .inl (fA dC aX xs k,a,(xs.length:Int),())) (fun i a=>a=k + ((cL aX (xs.take i):Nat):Int)) (a0:=k) (by simp [cL]) (fun i x a hx ha=>by
    have hlt:=ai hx;have hcm:=dz aN hx;have hs:=jT aX xs i;have hy:=iK dC aX xs k i x hx;rw [cS _ hx] at hs;rw [<- ha] at hy;have hc:aX x=1 + cL bP x.2.1:=rfl;have hw:aN x=wL bp x.2.1:=rfl;have a0:aj .i64 a 1=a + 1:=ay (by omega) (by omega);have m1:=F3 x.2.1 (a + 1) (by omega) (by omega) (by omega);have n1:au ((a + 1) + ((cL bP x.2.1:Nat):Int)) 0=false:=ax (by omega);show vh (fA dC aX xs k) a (i:Int)=_;unfold vh;have e:((a + 1) + ((cL bP x.2.1:Nat):Int))=a + ((aX x:Nat):Int):=by omega
    simp only [aD hy,az hy,aV _ hy,aJ (show i<=aT by omega),dC,cond_true,cond_false,Option.bind_some,cU,bg,Bool.not_true,a0,m1,n1];rw [e]) (fun i x a a' hx ha hf=>by
    simp only [Sum.inl.injEq] at hf;rw [lF _ hx];omega) (fun a ha=>by
    show vh (fA dC aX xs k) a (xs.length:Int)=_;unfold vh;rw [aw (kg _ _ _ _)]; rfl)
 rw [ke aX] at h;have h':Pf (fA dC aX xs k) k 0=_:=h;rw [h']; rfl
theorem zP (xs:List pw) (hb:xs.length<=aT/\∀ y∈xs,xm y) (a:Int) (h0:0<=a) (h1:a<=1048576):Qb xs a 0=some (if ((cL bm xs:Nat):Int)<=a then .inl (xs,a - (cL bm xs:Nat),(xs.length:Int),()) else .inr (-1,())):=by
 have h:=aH (step:=fun (x:(List pw)×Int×Int×Unit)=>xO x.1 x.2.1 x.2.2.1) xs (fun i (a:Int)=>(xs,a,((i:Nat):Int),())) (fun _ x (a:Int)=>bif decide ((bm x:Int)<=a) then Sum.inl (a - bm x) else .inr (.inr (-1,())))
  (fun a=> .inl (xs,a,(xs.length:Int),())) (fun _ a=>0<=a/\a<=1048576) (a0:=a) ⟨h0,h1⟩ (fun i x a hx ha=>by
    have hmem:=List.mem_of_getElem? hx;have hlt:=ai hx;show xO xs a (i:Int)=_;unfold xO;rw [aD hx,az hx,aV _ hx,Qi x a ha.1 ha.2 (hb.2 x hmem),aJ (by omega)];dsimp only [cond_true,Option.bind_some];by_cases q:((bm x:Nat):Int)<=a
    . rw [bD q,ax (by omega),decide_eq_true q]; rfl
    . rw [a8 q,decide_eq_false q]; rfl) (fun i x a a' hx ha hf=>by
    by_cases q:((bm x:Nat):Int)<=a
    . rw [decide_eq_true q] at hf;simp only [cond_true,Sum.inl.injEq] at hf;omega
    . rw [decide_eq_false q] at hf;simp at hf) (fun a ha=>by
    show xO xs a (xs.length:Int)=_;unfold xO;rw [aw rfl]; rfl)
 rw [so _ _ _ _ _ _ h0] at h;refine Eq.trans h ?_;split <;> rfl
theorem Ea (xs:List pw) (left:Int) (h0:0<=left) (h1:left<=1048576) (hb:xs.length<=aT/\∀ y∈xs,xm y):g24 xs left=some ((),((CJ left (wL bm xs),()),())):=by
 have hw:wL bm xs=xs.length + cL bm xs:=rfl;unfold g24;dsimp only;rw [dH (s:=xs) (left:=left) (by omega) (by omega) hb.1];by_cases q:((xs.length:Nat):Int)<=left
 . rw [ax (by omega)];dsimp only [cond_false];rw [zP xs hb _ (by omega) (by omega)];by_cases q2:((cL bm xs:Nat):Int)<=left - (xs.length:Int)
   . rw [if_pos q2,bD (by omega)];dsimp only [Option.bind_some,Sum.elim_inl];have e:left - (xs.length:Int) - (cL bm xs:Nat)=left - ((wL bm xs:Nat):Int):=by omega
     rw [e]
   . rw [if_neg q2,a8 (by omega)]; rfl
 . rw [aF (by omega),a8 (by omega)]; rfl
theorem NC (xs:List pw) (h:wL bm xs<=1048576):Xv xs=some ((),((xs,()),())):=by
 have hb:aT=140737488355328:=rfl;have hw:wL bm xs=xs.length + cL bm xs:=rfl;unfold Xv;dsimp only;rw [px (by decide) (by omega),jz]
 have h:=aH (step:=fun (x:(List pw)×(List gq)×Int×Unit)=>xx x.1 x.2.1 x.2.2.1) xs (fun i (a:List pw)=>(xs,a ++ List.replicate (xs.length - i) d62,((i:Nat):Int),())) (fun _ x (a:List pw)=>Sum.inl (a ++ [x]))
  (fun a=> .inl (xs,a,(xs.length:Int),())) (fun i a=>a.length=i) (a0:=[]) rfl (fun i x a hx ha=>by
    have hlt:=ai hx;have hcm:=dz bm hx;show xx xs (a ++ List.replicate (xs.length - i) d62) (i:Int)=_;unfold xx;obtain ⟨q,hq⟩:∃ q,xs.length - i=q + 1:=⟨xs.length - i - 1,by omega⟩;have hq':xs.length - (i + 1)=q:=by omega
    rw [hq,List.replicate_succ,aD hx,az hx,aV _ hx,toTask x (by omega)];dsimp only [cond_true,Option.bind_some];simp only [eO ha,kq _ ha,eF ha,aJ (show i<=aT by omega),hq',cond_true,List.append_assoc,List.singleton_append]) (fun i x a a' hx ha hf=>by
    simp only [Sum.inl.injEq] at hf;rw [<- hf,List.length_append,ha]; rfl) (fun a ha=>by
    show xx xs (a ++ List.replicate (xs.length - xs.length) d62) (xs.length:Int)=_;unfold xx;rw [aw rfl,Nat.sub_self,List.replicate_zero,List.append_nil]; rfl)
 rw [fH] at h;have h':OC xs (List.replicate xs.length d62) 0=_:=h;rw [h']; rfl
theorem NY (xs:List gq) (h:wL bm xs<=1099511627776):Xc xs xs=some ((),((true,()),())):=by
 have hb:aT=140737488355328:=rfl;have hw:wL bm xs=xs.length + cL bm xs:=rfl;unfold Xc;rw [bg];have h:=aI (step:=fun (x:(List gq)×(List gq)×Int×Unit)=>xf x.1 x.2.1 x.2.2.1) xs (fun i (_:Unit)=>(xs,xs,((i:Nat):Int),())) (fun _ x _=>Sum.inl ()) (fun _=> .inl (xs,xs,(xs.length:Int),())) (a0:=()) (fun i x a hx=>by
  have hlt:=ai hx;have hcm:=dz bm hx;show xf xs xs (i:Int)=_;unfold xf;rw [aD hx,az hx,aV _ hx,Sz x (by omega),aJ (by omega)]; rfl) (fun a=>by
  show xf xs xs (xs.length:Int)=_;unfold xf;rw [aw rfl]; rfl)
 rw [bZ (fun _ a=>a)] at h;have h':OT xs xs 0=_:=h;rw [h']; rfl
theorem Gf (xs:List gq) (k:Int) (h1:1<=k) (h2:k + ((cL bV xs:Nat):Int)<=1099511627776) (h3:wL bm xs<=1099511627776):XC xs k=some (((fA gb bV xs k,()),()),((k + ((cL bV xs:Nat):Int),()),())):=by
 have hb:aT=140737488355328:=rfl;have hwl:wL bm xs=xs.length + cL bm xs:=rfl;unfold XC
 have h:=aH (step:=fun (x:(List gq)×Int×Int×Unit)=>wo x.1 x.2.1 x.2.2.1) xs (fun i (a:List gq×Int)=>(a.1 ++ xs.drop i,a.2,((i:Nat):Int),())) (fun _ x (a:List gq×Int)=>Sum.inl (a.1 ++ [gb x a.2],a.2 + ((bV x:Nat):Int)))
  (fun a=> .inl (a.1,a.2,(xs.length:Int),())) (fun i a=>a.1.length=i/\1<=a.2/\a.2 + ((cL bV (xs.drop i):Nat):Int)<=1099511627776) (a0:=([],k)) ⟨rfl,h1,h2⟩ (fun i x a hx ha=>by
    have hlt:=ai hx;have hcm:=dz bm hx;obtain ⟨hd,ha1,ha2⟩:=ha;rw [cS _ hx] at ha2;have hc:bV x=cL (fun _=>1) x.1 + 1 + cL (fun _=>1) x.2.2.1 + 1 + 1 + 1 + 1 + 1 + cL (fun _=>1) x.2.2.2.2.2.2.2.2.1:=rfl;have hw:bm x=x.1.length + x.2.2.1.length + x.2.2.2.2.2.2.2.2.1.length:=rfl;have m0:=nB x.1 a.2 (by omega) (by omega);have a1:aj .i64 (a.2 + ((cL (fun _=>1) x.1:Nat):Int)) 1=(a.2 + ((cL (fun _=>1) x.1:Nat):Int)) + 1:=ay (by omega) (by omega);have m2:=xw x.2.2.1 ((a.2 + ((cL (fun _=>1) x.1:Nat):Int)) + 1) (by omega) (by omega);have a3:aj .i64 (((a.2 + ((cL (fun _=>1) x.1:Nat):Int)) + 1) + ((cL (fun _=>1) x.2.2.1:Nat):Int)) 1=(((a.2 + ((cL (fun _=>1) x.1:Nat):Int)) + 1) + ((cL (fun _=>1) x.2.2.1:Nat):Int)) + 1:=ay (by omega) (by omega);have a4:aj .i64 ((((a.2 + ((cL (fun _=>1) x.1:Nat):Int)) + 1) + ((cL (fun _=>1) x.2.2.1:Nat):Int)) + 1) 1=((((a.2 + ((cL (fun _=>1) x.1:Nat):Int)) + 1) + ((cL (fun _=>1) x.2.2.1:Nat):Int)) + 1) + 1:=ay (by omega) (by omega);have a5:aj .i64 (((((a.2 + ((cL (fun _=>1) x.1:Nat):Int)) + 1) + ((cL (fun _=>1) x.2.2.1:Nat):Int)) + 1) + 1) 1=(((((a.2 + ((cL (fun _=>1) x.1:Nat):Int)) + 1) + ((cL (fun _=>1) x.2.2.1:Nat):Int)) + 1) + 1) + 1:=ay (by omega) (by omega);have a6:aj .i64 ((((((a.2 + ((cL (fun _=>1) x.1:Nat):Int)) + 1) + ((cL (fun _=>1) x.2.2.1:Nat):Int)) + 1) + 1) + 1) 1=((((((a.2 + ((cL (fun _=>1) x.1:Nat):Int)) + 1) + ((cL (fun _=>1) x.2.2.1:Nat):Int)) + 1) + 1) + 1) + 1:=ay (by omega) (by omega);have a7:aj .i64 (((((((a.2 + ((cL (fun _=>1) x.1:Nat):Int)) + 1) + ((cL (fun _=>1) x.2.2.1:Nat):Int)) + 1) + 1) + 1) + 1) 1=(((((((a.2 + ((cL (fun _=>1) x.1:Nat):Int)) + 1) + ((cL (fun _=>1) x.2.2.1:Nat):Int)) + 1) + 1) + 1) + 1) + 1:=ay (by omega) (by omega);have m8:=nB x.2.2.2.2.2.2.2.2.1 ((((((((a.2 + ((cL (fun _=>1) x.1:Nat):Int)) + 1) + ((cL (fun _=>1) x.2.2.1:Nat):Int)) + 1) + 1) + 1) + 1) + 1) (by omega) (by omega);show wo (a.1 ++ xs.drop i) a.2 (i:Int)=_;unfold wo;have e:(((((((((a.2 + ((cL (fun _=>1) x.1:Nat):Int)) + 1) + ((cL (fun _=>1) x.2.2.1:Nat):Int)) + 1) + 1) + 1) + 1) + 1) + ((cL (fun _=>1) x.2.2.2.2.2.2.2.2.1:Nat):Int))=a.2 + ((bV x:Nat):Int):=by omega
    simp only [iN hx,lA hd,eO hd,eF hd,kq _ hd,aJ (show i<=aT by omega),cond_true,Option.bind_some,m0,a1,m2,a3,a4,a5,a6,a7,m8];rw [e,List.append_assoc]; rfl) (fun i x a a' hx ha hf=>by
    obtain ⟨hd,ha1,ha2⟩:=ha;rw [cS _ hx] at ha2;simp only [Sum.inl.injEq] at hf;subst hf;refine ⟨by rw [List.length_append,hd]; rfl,?_,?_⟩
    . show 1<=a.2 + ((bV x:Nat):Int); omega
    . show a.2 + ((bV x:Nat):Int) + _<=_; omega) (fun a ha=>by
    show wo (a.1 ++ xs.drop xs.length) a.2 (xs.length:Int)=_;unfold wo;rw [List.drop_length,List.append_nil,aw ha.1]; rfl)
 rw [mR gb bV] at h;have h':Py xs k 0=_:=h;rw [h']; rfl
theorem Gg (xs:List gq) (k:Int) (h1:1<=k) (h2:k + ((cL bV xs:Nat):Int)<=1099511627776) (h3:wL bm xs<=1099511627776):W0 (fA gb bV xs k) k=some ((),((k + ((cL bV xs:Nat):Int),()),())):=by
 have hb:aT=140737488355328:=rfl;have hwl:wL bm xs=xs.length + cL bm xs:=rfl;unfold W0
 have h:=aH (step:=fun (x:(List gq)×Int×Int×Unit)=>vi x.1 x.2.1 x.2.2.1) xs (fun i (a:Int)=>(fA gb bV xs k,a,((i:Nat):Int),())) (fun _ x (a:Int)=>Sum.inl (a + ((bV x:Nat):Int)))
  (fun a=> .inl (fA gb bV xs k,a,(xs.length:Int),())) (fun i a=>a=k + ((cL bV (xs.take i):Nat):Int)) (a0:=k) (by simp [cL]) (fun i x a hx ha=>by
    have hlt:=ai hx;have hcm:=dz bm hx;have hs:=jT bV xs i;have hy:=iK gb bV xs k i x hx;rw [cS _ hx] at hs;rw [<- ha] at hy;have hc:bV x=cL (fun _=>1) x.1 + 1 + cL (fun _=>1) x.2.2.1 + 1 + 1 + 1 + 1 + 1 + cL (fun _=>1) x.2.2.2.2.2.2.2.2.1:=rfl;have hw:bm x=x.1.length + x.2.2.1.length + x.2.2.2.2.2.2.2.2.1.length:=rfl;have m0:=sd x.1 a (by omega) (by omega);have n0:au (a + ((cL (fun _=>1) x.1:Nat):Int)) 0=false:=ax (by omega);have a1:aj .i64 (a + ((cL (fun _=>1) x.1:Nat):Int)) 1=(a + ((cL (fun _=>1) x.1:Nat):Int)) + 1:=ay (by omega) (by omega);have m2:=wH x.2.2.1 ((a + ((cL (fun _=>1) x.1:Nat):Int)) + 1) (by omega) (by omega);have n2:au (((a + ((cL (fun _=>1) x.1:Nat):Int)) + 1) + ((cL (fun _=>1) x.2.2.1:Nat):Int)) 0=false:=ax (by omega);have a3:aj .i64 (((a + ((cL (fun _=>1) x.1:Nat):Int)) + 1) + ((cL (fun _=>1) x.2.2.1:Nat):Int)) 1=(((a + ((cL (fun _=>1) x.1:Nat):Int)) + 1) + ((cL (fun _=>1) x.2.2.1:Nat):Int)) + 1:=ay (by omega) (by omega);have a4:aj .i64 ((((a + ((cL (fun _=>1) x.1:Nat):Int)) + 1) + ((cL (fun _=>1) x.2.2.1:Nat):Int)) + 1) 1=((((a + ((cL (fun _=>1) x.1:Nat):Int)) + 1) + ((cL (fun _=>1) x.2.2.1:Nat):Int)) + 1) + 1:=ay (by omega) (by omega);have a5:aj .i64 (((((a + ((cL (fun _=>1) x.1:Nat):Int)) + 1) + ((cL (fun _=>1) x.2.2.1:Nat):Int)) + 1) + 1) 1=(((((a + ((cL (fun _=>1) x.1:Nat):Int)) + 1) + ((cL (fun _=>1) x.2.2.1:Nat):Int)) + 1) + 1) + 1:=ay (by omega) (by omega);have a6:aj .i64 ((((((a + ((cL (fun _=>1) x.1:Nat):Int)) + 1) + ((cL (fun _=>1) x.2.2.1:Nat):Int)) + 1) + 1) + 1) 1=((((((a + ((cL (fun _=>1) x.1:Nat):Int)) + 1) + ((cL (fun _=>1) x.2.2.1:Nat):Int)) + 1) + 1) + 1) + 1:=ay (by omega) (by omega);have a7:aj .i64 (((((((a + ((cL (fun _=>1) x.1:Nat):Int)) + 1) + ((cL (fun _=>1) x.2.2.1:Nat):Int)) + 1) + 1) + 1) + 1) 1=(((((((a + ((cL (fun _=>1) x.1:Nat):Int)) + 1) + ((cL (fun _=>1) x.2.2.1:Nat):Int)) + 1) + 1) + 1) + 1) + 1:=ay (by omega) (by omega);have m8:=sd x.2.2.2.2.2.2.2.2.1 ((((((((a + ((cL (fun _=>1) x.1:Nat):Int)) + 1) + ((cL (fun _=>1) x.2.2.1:Nat):Int)) + 1) + 1) + 1) + 1) + 1) (by omega) (by omega);have n8:au (((((((((a + ((cL (fun _=>1) x.1:Nat):Int)) + 1) + ((cL (fun _=>1) x.2.2.1:Nat):Int)) + 1) + 1) + 1) + 1) + 1) + ((cL (fun _=>1) x.2.2.2.2.2.2.2.2.1:Nat):Int)) 0=false:=ax (by omega);show vi (fA gb bV xs k) a (i:Int)=_;unfold vi;have e:(((((((((a + ((cL (fun _=>1) x.1:Nat):Int)) + 1) + ((cL (fun _=>1) x.2.2.1:Nat):Int)) + 1) + 1) + 1) + 1) + 1) + ((cL (fun _=>1) x.2.2.2.2.2.2.2.2.1:Nat):Int))=a + ((bV x:Nat):Int):=by omega
    simp only [aD hy,az hy,aV _ hy,aJ (show i<=aT by omega),gb,cond_true,cond_false,Option.bind_some,cU,bg,Bool.not_true,m0,n0,a1,m2,n2,a3,a4,a5,a6,a7,m8,n8];rw [e]) (fun i x a a' hx ha hf=>by
    simp only [Sum.inl.injEq] at hf;rw [lF _ hx];omega) (fun a ha=>by
    show vi (fA gb bV xs k) a (xs.length:Int)=_;unfold vi;rw [aw (kg _ _ _ _)]; rfl)
 rw [ke bV] at h;have h':PD (fA gb bV xs k) k 0=_:=h;rw [h']; rfl
def eo (x:((List pU)×Int×Int×(List pw)×Unit)):Nat:=wL aN x.1 + wL bm x.2.2.2.1
def zq (x:((List pU)×Int×Int×(List pw)×Unit)):Prop:=(x.1.length<=aT/\∀ y∈x.1,mP y)/\(x.2.2.2.1.length<=aT/\∀ y∈x.2.2.2.1,xm y)
def zn (x:((List pU)×Int×Int×(List pw)×Unit)):Prop:=(∀ y∈x.1,BK y)/\(∀ y∈x.2.2.2.1,De y)
theorem MI (x:((List pU)×Int×Int×(List pw)×Unit)) (left:Int) (h0:0<=left) (h1:left<=1048576) (hb:zq x):g7 x left=some ((),((CJ left (eo x),()),())):=by
 have hw:eo x=wL aN x.1 + wL bm x.2.2.2.1:=rfl;unfold g7
 try dsimp only
 by_cases q0:((wL aN x.1:Nat):Int)<=left;rotate_left
 . rw [ym x.1 left (by omega) (by omega) (hb.1),a8 q0,a8 (by omega)]; rfl
 rw [ym x.1 left (by omega) (by omega) (hb.1),bD q0]; dsimp only [Option.bind_some]; rw [ax (by omega)]; dsimp only [cond_false];by_cases q1:((wL bm x.2.2.2.1:Nat):Int)<=(left - ((wL aN x.1:Nat):Int));rotate_left
 . rw [Ea x.2.2.2.1 (left - ((wL aN x.1:Nat):Int)) (by omega) (by omega) (hb.2),a8 q1,a8 (by omega)]; rfl
 rw [Ea x.2.2.2.1 (left - ((wL aN x.1:Nat):Int)) (by omega) (by omega) (hb.2),bD q1]; dsimp only [Option.bind_some]; rw [ax (by omega)]; dsimp only [cond_false];rw [bD (by omega)];have e:((left - ((wL aN x.1:Nat):Int)) - ((wL bm x.2.2.2.1:Nat):Int))=left - ((eo x:Nat):Int):=by omega
 rw [e]
theorem Mi (x:((List pU)×Int×Int×(List pw)×Unit)) (h:eo x<=1048576):g9 x=some ((),(x,())):=by have hw:eo x=wL aN x.1 + wL bm x.2.2.2.1:=rfl;unfold g9;rw [Gu x.1 (by omega)];rw [NC x.2.2.2.1 (by omega)];rfl
theorem ER (x:((List pU)×Int×Int×(List pw)×Unit)) (h:eo x<=1099511627776):g11 x x=some ((),((true,()),())):=by have hw:eo x=wL aN x.1 + wL bm x.2.2.2.1:=rfl;unfold g11;simp only [bg,cU,Bool.not_true,cond_false,Option.bind_some,beq_self_eq_true,G9 x.1 (by omega),NY x.2.2.2.1 (by omega)]
def ig (x:((List pU)×Int×Int×(List pw)×Unit)):Nat:=cL aX x.1 + cL bV x.2.2.2.1
noncomputable def rF (x:((List pU)×Int×Int×(List pw)×Unit)) (k:Int):((List pU)×Int×Int×(List pw)×Unit):=(fA dC aX x.1 k,x.2.1,x.2.2.1,fA gb bV x.2.2.2.1 (k + ((cL aX x.1:Nat):Int)),())
theorem yY (x:((List pU)×Int×Int×(List pw)×Unit)):ig x<=100 * eo x:=by have hw:eo x=wL aN x.1 + wL bm x.2.2.2.1:=rfl;have hc:ig x=cL aX x.1 + cL bV x.2.2.2.1:=rfl;have h0:=yK BP x.1;have h3:=yK Fs x.2.2.2.1;omega
theorem yM (x:((List pU)×Int×Int×(List pw)×Unit)) (k:Int) (h1:1<=k) (h2:k + ((ig x:Nat):Int)<=1099511627776) (h3:eo x<=1099511627776):g14 x k=some ((rF x k,()),((k + ((ig x:Nat):Int),()),())):=by
 have hb:aT=140737488355328:=rfl;have hw:eo x=wL aN x.1 + wL bm x.2.2.2.1:=rfl;have hc:ig x=cL aX x.1 + cL bV x.2.2.2.1:=rfl;have m0:=Cy x.1 k (by omega) (by omega) (by omega);have m1:=Gf x.2.2.2.1 (k + ((cL aX x.1:Nat):Int)) (by omega) (by omega) (by omega);unfold g14;have e:((k + ((cL aX x.1:Nat):Int)) + ((cL bV x.2.2.2.1:Nat):Int))=k + ((ig x:Nat):Int):=by omega
 rw [m0]; dsimp only [Option.bind_some,cond_false];rw [m1]; dsimp only [Option.bind_some,cond_false];rw [e]
 try rfl
theorem F5 (x:((List pU)×Int×Int×(List pw)×Unit)) (k:Int) (h1:1<=k) (h2:k + ((ig x:Nat):Int)<=1099511627776) (h3:eo x<=1099511627776):g15 (rF x k) k=some ((),((k + ((ig x:Nat):Int),()),())):=by
 have hb:aT=140737488355328:=rfl;have hw:eo x=wL aN x.1 + wL bm x.2.2.2.1:=rfl;have hc:ig x=cL aX x.1 + cL bV x.2.2.2.1:=rfl;have m0:=Bo x.1 k (by omega) (by omega) (by omega);have n0:au (k + ((cL aX x.1:Nat):Int)) 0=false:=ax (by omega);have m1:=Gg x.2.2.2.1 (k + ((cL aX x.1:Nat):Int)) (by omega) (by omega) (by omega);have n1:au ((k + ((cL aX x.1:Nat):Int)) + ((cL bV x.2.2.2.1:Nat):Int)) 0=false:=ax (by omega);unfold g15;have e:((k + ((cL aX x.1:Nat):Int)) + ((cL bV x.2.2.2.1:Nat):Int))=k + ((ig x:Nat):Int):=by omega
 unfold rF;dsimp only;rw [m0]; dsimp only [Option.bind_some,cond_false];rw [n0]; dsimp only [Option.bind_some,cond_false];rw [m1]; dsimp only [Option.bind_some,cond_false];rw [n1]; dsimp only [Option.bind_some,cond_false];rw [e]
end Go.Av
