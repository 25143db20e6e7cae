/- FnExactHandle, a part. -/
import Derived.Test.YtcmhjdkpbgncfaaGreatDoorP1
import Derived.Test.YtcmhjdkpbgncfaaGreatDoorFw4
set_option maxRecDepth 100000
set_option maxHeartbeats 4000000
namespace Go.Av
theorem Iw:∀(n:Nat) (t:Int) (s:S8),0<=t->t<10 ^ n->n<=18->s.length+n<=1000->∃ t' s',Mm t s=some (.inl (t',s',()))/\s'.length<=s.length+n:=by
 intro n;have hbig:=bh;induction n with
 | zero =>
   intro t s h0 h1 h3 h2;refine⟨t,s,?_,by omega⟩;have:t=0:=by simp at h1; omega
   subst this;exact dh _ (by show nR 0 s=_; unfold nR; rfl)
 | succ n ih =>
   intro t s h0 h1 h3 h2;by_cases ht:0<t
   . have hp:t<10 ^ n * 10:=by rw[Int.pow_succ]at h1; exact h1
     have hle:(10:Int) ^ n<=10 ^ 18:=by
      have hn:n<=18:=by omega
      exact_mod_cast (agw (by decide) hn:10 ^ n<=10 ^ 18)
     have hle':(10:Int) ^ n<=1000000000000000000:=hle;have hq:jr .i64 t 10=t / 10:=by unfold jr;rw[afS h0];exact IntWalk.i64_in _ (by omega)
     have hc:(strOf [((cW .u8 (ak .i64 48 (dP t 10))),())]).length=1:=rfl;have hc2:(rN (strOf [((cW .u8 (ak .i64 48 (dP t 10))),())]) s).length=1+s.length:=by rw[<- hc]; exact aeo
     obtain⟨t',s',e1,e2⟩:=ih (t / 10) (rN (strOf [((cW .u8 (ak .i64 48 (dP t 10))),())]) s) (by omega) (by omega) (by omega) (by omega);refine⟨t',s',dN _ (x':=(t / 10,rN (strOf [((cW .u8 (ak .i64 48 (dP t 10))),())]) s,())) ?_ e1,by omega⟩;show nR t s=_;unfold nR;have hf:iJ (strOf [((cW .u8 (ak .i64 48 (dP t 10))),())]) s=true:=aex (by omega);dsimp only;rw[aP ht,hq,hf];try rfl
   . refine⟨t,s,?_,by omega⟩;exact dh _ (by show nR t s=_; unfold nR; rw[aG ht];try rfl)
noncomputable def mt(k:Int):S8:=match uD k with | some y=>y.2.1.1 | none=>[]
theorem text{k:Int}(h1:1<=k)(h2:k<=99999999999999999):uD k=zR (mt k):=by
 have hbig:=bh;obtain⟨t',s',e1,e2⟩:=Iw 17 k [] (by omega) (by omega) (by decide) (by simp);have hr:uD k=zR (rN [109] s'):=by unfold uD;have hf:iJ [109] s'=true:=aex (by simp at e2 ⊢; omega);have hle:bT k 0=false:=aeL (by omega);rw[hle,e1];dsimp only[oF,oB,oL];rw[hf];try rfl
 have hm:mt k=rN [109] s':=by unfold mt; rw[hr]
 rw[hm]; exact hr
def aX(x:jA):Nat:=x.1.length
def wO(x:jA):Prop:=x.1.length<=bN
theorem VP(x:jA)(left:Int)(h0:0<=left)(h1:left<=1048576)(hb:wO x):QF x left=zR (J4 left (aX x)):=by
 have hw:aX x=x.1.length:=rfl;unfold QF
 try dsimp only
 by_cases q0:((x.1.length:Nat):Int)<=left;rotate_left
 . rw[fI (s:=x.1) (left:=left) (by omega) (by omega) hb]; rw[aP (by omega),cg (by omega)];try rfl
 rw[fI (s:=x.1) (left:=left) (by omega) (by omega) hb]; rw[aG (by omega)]; dsimp only[oF];rw[dF (by omega)];have e:(left-((x.1.length:Nat):Int))=left-((aX x:Nat):Int):=by omega
 rw[e]
theorem UL(x:jA)(h:aX x<=1048576):Ri x=some ((),(x,())):=by have hw:aX x=x.1.length:=rfl;unfold Ri;rfl
theorem Uo(x:jA)(h:aX x<=1099511627776):QJ x x=zR true:=by have hw:aX x=x.1.length:=rfl;unfold QJ;simp only[bZ,hO,oN,oF,oB,beq_self_eq_true]
def bk(x:jA):Nat:=1+1+1
noncomputable def ie(x:jA)(k:Int):jA:=(mt k,(k+1),((k+1)+1),())
theorem IQ(x:jA):bk x<=100 * (aX x+1):=by
 have hw:aX x=x.1.length:=rfl;have hc:bk x=1+1+1:=rfl
 try dsimp only at *
 omega
theorem Am(x:(List R3))(left:Int)(h0:0<=left)(h1:left<=1048576)(hb:x.length<=bN):N6 x left=zR (J4 left x.length):=by
 unfold N6;dsimp only;by_cases q:((x.length:Nat):Int)<=left
 . rw[fI (s:=x) (left:=left) (by omega) (by omega) hb,aG (by omega),dF q];try rfl
 . rw[fI (s:=x) (left:=left) (by omega) (by omega) hb,aP (by omega),cg q];try rfl
theorem Kd(xs:List R3)(h:xs.length<=1048576):g30 xs=zR xs:=by
 have hb:=bh;unfold g30;dsimp only;rw[uJ (by decide) (by omega),mI]
 have h:=aT (step:=fun(x:(List R3)×(List R3)×Int×Unit)=>w7 x.1 x.2.1 x.2.2.1) xs (fun i (a:List R3)=>(xs,a++List.replicate (xs.length-i) d3,((i:Nat):Int),())) (fun _ x (a:List R3)=>Sum.inl (a++[x]))
  (fun a=> .inl (xs,a,(xs.length:Int),())) (fun i a=>a.length=i) (a0:=[]) rfl (fun i x a hx ha=>by
    have hlt:=ai hx;show w7 xs (a++List.replicate (xs.length-i) d3) (i:Int)=_;unfold w7;obtain⟨q,hq⟩:∃ q,xs.length-i=q+1:=⟨xs.length-i-1,by omega⟩;have hq':xs.length-(i+1)=q:=by omega
    rw[hq,agh,aM hx,aC hx,fC ha,aO _ hx,eJ ha,aU (by omega),hq'];dsimp only[oT];rw[aeO];try rfl) (fun i x a a' hx ha hf=>by
    simp only[aeK]at hf;rw[<- hf,aeo,ha];try rfl) (fun a ha=>by
    show w7 xs (a++List.replicate (xs.length-xs.length) d3) (xs.length:Int)=_;unfold w7;rw[aA rfl,agb,agi,afd];try rfl)
 rw[ma]at h;have h':SF xs (List.replicate xs.length d3) 0=_:=h;rw[h'];try rfl
theorem Lp(xs:List R3)(h:xs.length<=1099511627776):YV xs xs=zR true:=by
 have hb:=bh;unfold YV;rw[bZ];have h:=aQ (step:=fun(x:(List R3)×(List R3)×Int×Unit)=>wh x.1 x.2.1 x.2.2.1) xs (fun i (_:Unit)=>(xs,xs,((i:Nat):Int),())) (fun _ x _=>Sum.inl ()) (fun _=> .inl (xs,xs,(xs.length:Int),())) (a0:=()) (fun i x a hx=>by
  have hlt:=ai hx;show wh xs xs (i:Int)=_;unfold wh;rw[aM hx,aC hx,aO _ hx,bZ,aU (by omega)];try rfl) (fun a=>by
  show wh xs xs (xs.length:Int)=_;unfold wh;rw[aA rfl];try rfl)
 rw[bQ (fun _ a=>a)]at h;have h':S1 xs xs 0=_:=h;rw[h'];try rfl
def mkInt(x:Int×Unit)(k:Int):Int×Unit:=(k,())
theorem B1(xs:List R3)(k:Int)(h1:1<=k)(h2:k+((cL (fun _=>1) xs:Nat):Int)<=1099511627776):g33 xs k=some (((km mkInt (fun _=>1) xs k,()),()),((k+((cL (fun _=>1) xs:Nat):Int),()),())):=by
 have hb:=bh;have hlen:xs.length<=1099511627776:=by rw[lT]at h2; omega
 unfold g33
 have h:=aT (step:=fun(x:(List R3)×Int×Int×Unit)=>xu x.1 x.2.1 x.2.2.1) xs (fun i (a:List R3×Int)=>(a.1++xs.drop i,a.2,((i:Nat):Int),())) (fun _ x (a:List R3×Int)=>Sum.inl (a.1++[mkInt x a.2],a.2+((1:Nat):Int)))
  (fun a=> .inl (a.1,a.2,(xs.length:Int),())) (fun i a=>a.1.length=i/\1<=a.2/\a.2+((cL (fun _=>1) (xs.drop i):Nat):Int)<=1099511627776) (a0:=([],k)) ⟨rfl,h1,h2⟩ (fun i x a hx ha=>by
    have hlt:=ai hx;obtain⟨hd,ha1,ha2⟩:=ha;rw[fJ _ hx]at ha2;have a1:ak .i64 a.2 1=a.2+1:=a8 (by omega) (by omega);show xu (a.1++xs.drop i) a.2 (i:Int)=_;unfold xu;rw[jT hx,sH hd,fC hd,eJ hd,aU (by omega),a1];dsimp only[oT];rw[aeO];try rfl) (fun i x a a' hx ha hf=>by
    obtain⟨hd,ha1,ha2⟩:=ha;rw[fJ _ hx]at ha2;simp only[aeK]at hf;subst hf;refine⟨by rw[aeo,hd];try rfl,?_,?_⟩
    . show 1<=a.2+((1:Nat):Int); omega
    . show a.2+((1:Nat):Int)+_<=_; omega) (fun a ha=>by
    show xu (a.1++xs.drop xs.length) a.2 (xs.length:Int)=_;unfold xu;rw[agj,afd,aA ha.1];try rfl)
 rw[uz mkInt (fun _=>1)]at h;have h':T7 xs k 0=_:=h;rw[h'];try rfl
theorem DM(xs:List R3)(k:Int)(h1:1<=k)(h2:k+((cL (fun _=>1) xs:Nat):Int)<=1099511627776):Lx (km mkInt (fun _=>1) xs k) k=zR (k+((cL (fun _=>1) xs:Nat):Int)):=by
 have hb:=bh;have hlen:xs.length<=1099511627776:=by rw[lT]at h2; omega
 unfold Lx
 have h:=aT (step:=fun(x:(List R3)×Int×Int×Unit)=>qU x.1 x.2.1 x.2.2.1) xs (fun i (a:Int)=>(km mkInt (fun _=>1) xs k,a,((i:Nat):Int),())) (fun _ x (a:Int)=>Sum.inl (a+((1:Nat):Int)))
  (fun a=> .inl (km mkInt (fun _=>1) xs k,a,(xs.length:Int),())) (fun i a=>a=k+((cL (fun _=>1) (xs.take i):Nat):Int)) (a0:=k) (by simp[cL]) (fun i x a hx ha=>by
    have hlt:=ai hx;have hs:=oq (fun _=>1) xs i;have hy:=mj mkInt (fun _=>1) xs k i x hx;rw[fJ _ hx]at hs;rw[<- ha]at hy;have a1:ak .i64 a 1=a+1:=a8 (by omega) (by omega);show qU (km mkInt (fun _=>1) xs k) a (i:Int)=_;unfold qU;rw[aM hy,aC hy,aO _ hy,aU (by omega),a1];simp only[mkInt,bZ,oN,oT,oF];try rfl) (fun i x a a' hx ha hf=>by
    simp only[aeK]at hf;rw[sX _ hx];omega) (fun a ha=>by
    show qU (km mkInt (fun _=>1) xs k) a (xs.length:Int)=_;unfold qU;rw[aA (pz _ _ _ _)];try rfl)
 rw[pA (fun _=>1)]at h;have h':NC (km mkInt (fun _=>1) xs k) k 0=_:=h;rw[h'];try rfl
def du(x:(Int×Int×(List R3)×(List R3)×Unit)):Nat:=x.2.2.1.length+x.2.2.2.1.length
def Nr(x:(Int×Int×(List R3)×(List R3)×Unit)):Prop:=x.2.2.1.length<=bN/\x.2.2.2.1.length<=bN
theorem Ow(x:(Int×Int×(List R3)×(List R3)×Unit))(left:Int)(h0:0<=left)(h1:left<=1048576)(hb:Nr x):Qs x left=zR (J4 left (du x)):=by
 have hw:du x=x.2.2.1.length+x.2.2.2.1.length:=rfl;unfold Qs
 try dsimp only
 by_cases q0:((x.2.2.1.length:Nat):Int)<=left;rotate_left
 . rw[Am x.2.2.1 left (by omega) (by omega) (hb.1),cg q0,cg (by omega)];try rfl
 rw[Am x.2.2.1 left (by omega) (by omega) (hb.1),dF q0]; dsimp only[oB]; rw[aG (by omega)]; dsimp only[oF];by_cases q1:((x.2.2.2.1.length:Nat):Int)<=(left-((x.2.2.1.length:Nat):Int));rotate_left
 . rw[Am x.2.2.2.1 (left-((x.2.2.1.length:Nat):Int)) (by omega) (by omega) (hb.2),cg q1,cg (by omega)];try rfl
 rw[Am x.2.2.2.1 (left-((x.2.2.1.length:Nat):Int)) (by omega) (by omega) (hb.2),dF q1]; dsimp only[oB]; rw[aG (by omega)]; dsimp only[oF];rw[dF (by omega)];have e:((left-((x.2.2.1.length:Nat):Int))-((x.2.2.2.1.length:Nat):Int))=left-((du x:Nat):Int):=by omega
 rw[e]
theorem toRing(x:(Int×Int×(List R3)×(List R3)×Unit))(h:du x<=1048576):O2 x=some ((),(x,())):=by have hw:du x=x.2.2.1.length+x.2.2.2.1.length:=rfl;unfold O2;rw[Kd x.2.2.1 (by omega)];rw[Kd x.2.2.2.1 (by omega)];try rfl
theorem VD(x:(Int×Int×(List R3)×(List R3)×Unit))(h:du x<=1099511627776):Pw x x=zR true:=by have hw:du x=x.2.2.1.length+x.2.2.2.1.length:=rfl;unfold Pw;simp only[bZ,hO,oN,oF,oB,beq_self_eq_true,Lp x.2.2.1 (by omega),Lp x.2.2.2.1 (by omega)]
theorem Gf(x:(List R5))(left:Int)(h0:0<=left)(h1:left<=1048576)(hb:x.length<=bN):g74 x left=zR (J4 left x.length):=by
 unfold g74;dsimp only;by_cases q:((x.length:Nat):Int)<=left
 . rw[fI (s:=x) (left:=left) (by omega) (by omega) hb,aG (by omega),dF q];try rfl
 . rw[fI (s:=x) (left:=left) (by omega) (by omega) hb,aP (by omega),cg q];try rfl
theorem Hj(xs:List R5)(h:xs.length<=1048576):g16 xs=zR xs:=by
 have hb:=bh;unfold g16;dsimp only;rw[uJ (by decide) (by omega),mI]
 have h:=aT (step:=fun(x:(List R5)×(List R5)×Int×Unit)=>wc x.1 x.2.1 x.2.2.1) xs (fun i (a:List R5)=>(xs,a++List.replicate (xs.length-i) d5,((i:Nat):Int),())) (fun _ x (a:List R5)=>Sum.inl (a++[x]))
  (fun a=> .inl (xs,a,(xs.length:Int),())) (fun i a=>a.length=i) (a0:=[]) rfl (fun i x a hx ha=>by
    have hlt:=ai hx;show wc xs (a++List.replicate (xs.length-i) d5) (i:Int)=_;unfold wc;obtain⟨q,hq⟩:∃ q,xs.length-i=q+1:=⟨xs.length-i-1,by omega⟩;have hq':xs.length-(i+1)=q:=by omega
    rw[hq,agh,aM hx,aC hx,fC ha,aO _ hx,eJ ha,aU (by omega),hq'];dsimp only[oT];rw[aeO];try rfl) (fun i x a a' hx ha hf=>by
    simp only[aeK]at hf;rw[<- hf,aeo,ha];try rfl) (fun a ha=>by
    show wc xs (a++List.replicate (xs.length-xs.length) d5) (xs.length:Int)=_;unfold wc;rw[aA rfl,agb,agi,afd];try rfl)
 rw[ma]at h;have h':SB xs (List.replicate xs.length d5) 0=_:=h;rw[h'];try rfl
theorem BL(xs:List R5)(h:xs.length<=1099511627776):g18 xs xs=zR true:=by
 have hb:=bh;unfold g18;rw[bZ];have h:=aQ (step:=fun(x:(List R5)×(List R5)×Int×Unit)=>wJ x.1 x.2.1 x.2.2.1) xs (fun i (_:Unit)=>(xs,xs,((i:Nat):Int),())) (fun _ x _=>Sum.inl ()) (fun _=> .inl (xs,xs,(xs.length:Int),())) (a0:=()) (fun i x a hx=>by
  have hlt:=ai hx;show wJ xs xs (i:Int)=_;unfold wJ;rw[aM hx,aC hx,aO _ hx,bZ,aU (by omega)];try rfl) (fun a=>by
  show wJ xs xs (xs.length:Int)=_;unfold wJ;rw[aA rfl];try rfl)
 rw[bQ (fun _ a=>a)]at h;have h':SW xs xs 0=_:=h;rw[h'];try rfl
def j8(x:Int×Unit)(k:Int):Int×Unit:=(cW .u8 k,())
theorem uK(xs:List R5)(k:Int)(h1:1<=k)(h2:k+((cL (fun _=>1) xs:Nat):Int)<=1099511627776):g20 xs k=some (((km j8 (fun _=>1) xs k,()),()),((k+((cL (fun _=>1) xs:Nat):Int),()),())):=by
 have hb:=bh;have hlen:xs.length<=1099511627776:=by rw[lT]at h2; omega
 unfold g20
 have h:=aT (step:=fun(x:(List R5)×Int×Int×Unit)=>wT x.1 x.2.1 x.2.2.1) xs (fun i (a:List R5×Int)=>(a.1++xs.drop i,a.2,((i:Nat):Int),())) (fun _ x (a:List R5×Int)=>Sum.inl (a.1++[j8 x a.2],a.2+((1:Nat):Int)))
  (fun a=> .inl (a.1,a.2,(xs.length:Int),())) (fun i a=>a.1.length=i/\1<=a.2/\a.2+((cL (fun _=>1) (xs.drop i):Nat):Int)<=1099511627776) (a0:=([],k)) ⟨rfl,h1,h2⟩ (fun i x a hx ha=>by
    have hlt:=ai hx;obtain⟨hd,ha1,ha2⟩:=ha;rw[fJ _ hx]at ha2;have a1:ak .i64 a.2 1=a.2+1:=a8 (by omega) (by omega);show wT (a.1++xs.drop i) a.2 (i:Int)=_;unfold wT;rw[jT hx,sH hd,fC hd,eJ hd,aU (by omega),a1];dsimp only[oT];rw[aeO];try rfl) (fun i x a a' hx ha hf=>by
    obtain⟨hd,ha1,ha2⟩:=ha;rw[fJ _ hx]at ha2;simp only[aeK]at hf;subst hf;refine⟨by rw[aeo,hd];try rfl,?_,?_⟩
    . show 1<=a.2+((1:Nat):Int); omega
    . show a.2+((1:Nat):Int)+_<=_; omega) (fun a ha=>by
    show wT (a.1++xs.drop xs.length) a.2 (xs.length:Int)=_;unfold wT;rw[agj,afd,aA ha.1];try rfl)
 rw[uz j8 (fun _=>1)]at h;have h':SY xs k 0=_:=h;rw[h'];try rfl
theorem zp(xs:List R5)(k:Int)(h1:1<=k)(h2:k+((cL (fun _=>1) xs:Nat):Int)<=1099511627776):g22 (km j8 (fun _=>1) xs k) k=zR (k+((cL (fun _=>1) xs:Nat):Int)):=by
 have hb:=bh;have hlen:xs.length<=1099511627776:=by rw[lT]at h2; omega
 unfold g22
 have h:=aT (step:=fun(x:(List R5)×Int×Int×Unit)=>xm x.1 x.2.1 x.2.2.1) xs (fun i (a:Int)=>(km j8 (fun _=>1) xs k,a,((i:Nat):Int),())) (fun _ x (a:Int)=>Sum.inl (a+((1:Nat):Int)))
  (fun a=> .inl (km j8 (fun _=>1) xs k,a,(xs.length:Int),())) (fun i a=>a=k+((cL (fun _=>1) (xs.take i):Nat):Int)) (a0:=k) (by simp[cL]) (fun i x a hx ha=>by
    have hlt:=ai hx;have hs:=oq (fun _=>1) xs i;have hy:=mj j8 (fun _=>1) xs k i x hx;rw[fJ _ hx]at hs;rw[<- ha]at hy;have a1:ak .i64 a 1=a+1:=a8 (by omega) (by omega);show xm (km j8 (fun _=>1) xs k) a (i:Int)=_;unfold xm;rw[aM hy,aC hy,aO _ hy,aU (by omega),a1];simp only[j8,bZ,oN,oT,oF];try rfl) (fun i x a a' hx ha hf=>by
    simp only[aeK]at hf;rw[sX _ hx];omega) (fun a ha=>by
    show xm (km j8 (fun _=>1) xs k) a (xs.length:Int)=_;unfold xm;rw[aA (pz _ _ _ _)];try rfl)
 rw[pA (fun _=>1)]at h;have h':T2 (km j8 (fun _=>1) xs k) k 0=_:=h;rw[h'];try rfl
def bp(x:iF):Nat:=x.1.length+x.2.1.length+x.2.2.1.length
def xo(x:iF):Prop:=x.1.length<=bN/\x.2.1.length<=bN/\x.2.2.1.length<=bN
def K1(x:iF):Prop:=(∀ y∈x.2.2.1,nK .u8 y.1)
theorem UA(x:iF)(left:Int)(h0:0<=left)(h1:left<=1048576)(hb:xo x):Qw x left=zR (J4 left (bp x)):=by
 have hw:bp x=x.1.length+x.2.1.length+x.2.2.1.length:=rfl;unfold Qw
 try dsimp only
 by_cases q0:((x.1.length:Nat):Int)<=left;rotate_left
 . rw[fI (s:=x.1) (left:=left) (by omega) (by omega) hb.1]; rw[aP (by omega),cg (by omega)];try rfl
 rw[fI (s:=x.1) (left:=left) (by omega) (by omega) hb.1]; rw[aG (by omega)]; dsimp only[oF];by_cases q1:((x.2.1.length:Nat):Int)<=(left-((x.1.length:Nat):Int));rotate_left
 . rw[fI (s:=x.2.1) (left:=(left-((x.1.length:Nat):Int))) (by omega) (by omega) hb.2.1]; rw[aP (by omega),cg (by omega)];try rfl
 rw[fI (s:=x.2.1) (left:=(left-((x.1.length:Nat):Int))) (by omega) (by omega) hb.2.1]; rw[aG (by omega)]; dsimp only[oF];by_cases q2:((x.2.2.1.length:Nat):Int)<=((left-((x.1.length:Nat):Int))-((x.2.1.length:Nat):Int));rotate_left
 . rw[Gf x.2.2.1 ((left-((x.1.length:Nat):Int))-((x.2.1.length:Nat):Int)) (by omega) (by omega) (hb.2.2),cg q2,cg (by omega)];try rfl
 rw[Gf x.2.2.1 ((left-((x.1.length:Nat):Int))-((x.2.1.length:Nat):Int)) (by omega) (by omega) (hb.2.2),dF q2]; dsimp only[oB]; rw[aG (by omega)]; dsimp only[oF];rw[dF (by omega)];have e:(((left-((x.1.length:Nat):Int))-((x.2.1.length:Nat):Int))-((x.2.2.1.length:Nat):Int))=left-((bp x:Nat):Int):=by omega
 rw[e]
theorem U5(x:iF)(h:bp x<=1048576):PW x=some ((),(x,())):=by have hw:bp x=x.1.length+x.2.1.length+x.2.2.1.length:=rfl;unfold PW;rw[Hj x.2.2.1 (by omega)];try rfl
theorem UE(x:iF)(h:bp x<=1099511627776):PV x x=zR true:=by have hw:bp x=x.1.length+x.2.1.length+x.2.2.1.length:=rfl;unfold PV;simp only[bZ,hO,oN,oF,oB,beq_self_eq_true,BL x.2.2.1 (by omega)]
def cz(x:iF):Nat:=1+1+cL (fun _=>1) x.2.2.1
noncomputable def il(x:iF)(k:Int):iF:=(mt k,mt (k+1),km j8 (fun _=>1) x.2.2.1 ((k+1)+1),())
theorem I1(x:iF):cz x<=100 * (bp x+1):=by
 have hw:bp x=x.1.length+x.2.1.length+x.2.2.1.length:=rfl;have hc:cz x=1+1+cL (fun _=>1) x.2.2.1:=rfl;have h2:=lT x.2.2.1
 try dsimp only at *
 omega
theorem BB(xs:List jA)(hb:xs.length<=bN/\∀ y∈xs,wO y)(a:Int)(h0:0<=a)(h1:a<=1048576):Mc xs a 0=some (if ((cL aX xs:Nat):Int)<=a then .inl (xs,a-(cL aX xs:Nat),(xs.length:Int),())else .inr (-1,())):=by
 have h:=aT (step:=fun(x:(List jA)×Int×Int×Unit)=>rh x.1 x.2.1 x.2.2.1) xs (fun i (a:Int)=>(xs,a,((i:Nat):Int),())) (fun _ x (a:Int)=>bif decide ((aX x:Int)<=a)then Sum.inl (a-aX x)else .inr (.inr (-1,())))
  (fun a=> .inl (xs,a,(xs.length:Int),())) (fun _ a=>0<=a/\a<=1048576) (a0:=a) ⟨h0,h1⟩ (fun i x a hx ha=>by
    have hmem:=aet hx;have hlt:=ai hx;show rh xs a (i:Int)=_;unfold rh;rw[aM hx,aC hx,aO _ hx,VP x a ha.1 ha.2 (hb.2 x hmem),aU (by omega)];dsimp only[oT,oB];by_cases q:((aX x:Nat):Int)<=a
    . rw[dF q,aG (by omega),aeq q];try rfl
    . rw[cg q,aeL q];try rfl) (fun i x a a' hx ha hf=>by
    by_cases q:((aX x:Nat):Int)<=a
    . rw[aeq q]at hf;simp only[oT,aeK]at hf;omega
    . rw[aeL q]at hf;simp at hf) (fun a ha=>by
    show rh xs a (xs.length:Int)=_;unfold rh;rw[aA rfl];try rfl)
 rw[A0 _ _ _ _ _ _ h0]at h;refine Eq.trans h ?_;split <;> rfl
theorem Ge(xs:List jA)(left:Int)(h0:0<=left)(h1:left<=1048576)(hb:xs.length<=bN/\∀ y∈xs,wO y):Rk xs left=zR (J4 left (wL aX xs)):=by
 have hw:wL aX xs=xs.length+cL aX xs:=rfl;unfold Rk;dsimp only;rw[fI (s:=xs) (left:=left) (by omega) (by omega) hb.1];by_cases q:((xs.length:Nat):Int)<=left
 . rw[aG (by omega)];dsimp only[oF];rw[BB xs hb _ (by omega) (by omega)];by_cases q2:((cL aX xs:Nat):Int)<=left-(xs.length:Int)
   . rw[if_pos q2,dF (by omega)];dsimp only[oB,oL];have e:left-(xs.length:Int)-(cL aX xs:Nat)=left-((wL aX xs:Nat):Int):=by omega
     rw[e]
   . rw[if_neg q2,cg (by omega)];try rfl
 . rw[aP (by omega),cg (by omega)];try rfl
theorem Q4(xs:List jA)(h:wL aX xs<=1048576):Pu xs=zR xs:=by
 have hb:=bh;have hw:wL aX xs=xs.length+cL aX xs:=rfl;unfold Pu;dsimp only;rw[uJ (by decide) (by omega),mI]
 have h:=aT (step:=fun(x:(List jA)×(List bm)×Int×Unit)=>pY x.1 x.2.1 x.2.2.1) xs (fun i (a:List jA)=>(xs,a++List.replicate (xs.length-i) d192,((i:Nat):Int),())) (fun _ x (a:List jA)=>Sum.inl (a++[x]))
  (fun a=> .inl (xs,a,(xs.length:Int),())) (fun i a=>a.length=i) (a0:=[]) rfl (fun i x a hx ha=>by
    have hlt:=ai hx;have hcm:=jl aX hx;show pY xs (a++List.replicate (xs.length-i) d192) (i:Int)=_;unfold pY;obtain⟨q,hq⟩:∃ q,xs.length-i=q+1:=⟨xs.length-i-1,by omega⟩;have hq':xs.length-(i+1)=q:=by omega
    rw[hq,agh,aM hx,aC hx,aO _ hx,UL x (by omega)];dsimp only[oT,oB];simp only[fC ha,oG _ ha,eJ ha,aU (show i<=bN by omega),hq',oT,aeO,agp]) (fun i x a a' hx ha hf=>by
    simp only[aeK]at hf;rw[<- hf,aeo,ha];try rfl) (fun a ha=>by
    show pY xs (a++List.replicate (xs.length-xs.length) d192) (xs.length:Int)=_;unfold pY;rw[aA rfl,agb,agi,afd];try rfl)
 rw[ma]at h;have h':Oj xs (List.replicate xs.length d192) 0=_:=h;rw[h'];try rfl
theorem Pt(xs:List bm)(h:wL aX xs<=1099511627776):Q2 xs xs=zR true:=by
 have hb:=bh;have hw:wL aX xs=xs.length+cL aX xs:=rfl;unfold Q2;rw[bZ];have h:=aQ (step:=fun(x:(List bm)×(List bm)×Int×Unit)=>qg x.1 x.2.1 x.2.2.1) xs (fun i (_:Unit)=>(xs,xs,((i:Nat):Int),())) (fun _ x _=>Sum.inl ()) (fun _=> .inl (xs,xs,(xs.length:Int),())) (a0:=()) (fun i x a hx=>by
  have hlt:=ai hx;have hcm:=jl aX hx;show qg xs xs (i:Int)=_;unfold qg;rw[aM hx,aC hx,aO _ hx,Uo x (by omega),aU (by omega)];try rfl) (fun a=>by
  show qg xs xs (xs.length:Int)=_;unfold qg;rw[aA rfl];try rfl)
 rw[bQ (fun _ a=>a)]at h;have h':Mw xs xs 0=_:=h;rw[h'];try rfl
theorem IU(xs:List bm)(k:Int)(h1:1<=k)(h2:k+((cL bk xs:Nat):Int)<=1099511627776)(h3:wL aX xs<=1099511627776):PG xs k=some (((km ie bk xs k,()),()),((k+((cL bk xs:Nat):Int),()),())):=by
 have hb:=bh;have hwl:wL aX xs=xs.length+cL aX xs:=rfl;unfold PG
 have h:=aT (step:=fun(x:(List bm)×Int×Int×Unit)=>qy x.1 x.2.1 x.2.2.1) xs (fun i (a:List bm×Int)=>(a.1++xs.drop i,a.2,((i:Nat):Int),())) (fun _ x (a:List bm×Int)=>Sum.inl (a.1++[ie x a.2],a.2+((bk x:Nat):Int)))
  (fun a=> .inl (a.1,a.2,(xs.length:Int),())) (fun i a=>a.1.length=i/\1<=a.2/\a.2+((cL bk (xs.drop i):Nat):Int)<=1099511627776) (a0:=([],k)) ⟨rfl,h1,h2⟩ (fun i x a hx ha=>by
    have hlt:=ai hx;have hcm:=jl aX hx;obtain⟨hd,ha1,ha2⟩:=ha;rw[fJ _ hx]at ha2;have hc:bk x=1+1+1:=rfl;have hw:aX x=x.1.length:=rfl;have a0:ak .i64 a.2 1=a.2+1:=a8 (by omega) (by omega);have a1:ak .i64 (a.2+1) 1=(a.2+1)+1:=a8 (by omega) (by omega);have a2:ak .i64 ((a.2+1)+1) 1=((a.2+1)+1)+1:=a8 (by omega) (by omega);show qy (a.1++xs.drop i) a.2 (i:Int)=_;unfold qy;have e:(((a.2+1)+1)+1)=a.2+((bk x:Nat):Int):=by omega
    simp only[jT hx,sH hd,fC hd,eJ hd,oG _ hd,aU (show i<=bN by omega),oT,oB,a0,text (k:=a.2) (by omega) (by omega),a1,a2];rw[e,aeO];try rfl) (fun i x a a' hx ha hf=>by
    obtain⟨hd,ha1,ha2⟩:=ha;rw[fJ _ hx]at ha2;simp only[aeK]at hf;subst hf;refine⟨by rw[aeo,hd];try rfl,?_,?_⟩
    . show 1<=a.2+((bk x:Nat):Int); omega
    . show a.2+((bk x:Nat):Int)+_<=_; omega) (fun a ha=>by
    show qy (a.1++xs.drop xs.length) a.2 (xs.length:Int)=_;unfold qy;rw[agj,afd,aA ha.1];try rfl)
 rw[uz ie bk]at h;have h':Me xs k 0=_:=h;rw[h'];try rfl
theorem Ip(xs:List bm)(k:Int)(h1:1<=k)(h2:k+((cL bk xs:Nat):Int)<=1099511627776)(h3:wL aX xs<=1099511627776):Pj (km ie bk xs k) k=zR (k+((cL bk xs:Nat):Int)):=by
 have hb:=bh;have hwl:wL aX xs=xs.length+cL aX xs:=rfl;unfold Pj
 have h:=aT (step:=fun(x:(List bm)×Int×Int×Unit)=>rk x.1 x.2.1 x.2.2.1) xs (fun i (a:Int)=>(km ie bk xs k,a,((i:Nat):Int),())) (fun _ x (a:Int)=>Sum.inl (a+((bk x:Nat):Int)))
  (fun a=> .inl (km ie bk xs k,a,(xs.length:Int),())) (fun i a=>a=k+((cL bk (xs.take i):Nat):Int)) (a0:=k) (by simp[cL]) (fun i x a hx ha=>by
    have hlt:=ai hx;have hcm:=jl aX hx;have hs:=oq bk xs i;have hy:=mj ie bk xs k i x hx;rw[fJ _ hx]at hs;rw[<- ha]at hy;have hc:bk x=1+1+1:=rfl;have hw:aX x=x.1.length:=rfl;have a0:ak .i64 a 1=a+1:=a8 (by omega) (by omega);have a1:ak .i64 (a+1) 1=(a+1)+1:=a8 (by omega) (by omega);have a2:ak .i64 ((a+1)+1) 1=((a+1)+1)+1:=a8 (by omega) (by omega);show rk (km ie bk xs k) a (i:Int)=_;unfold rk;have e:(((a+1)+1)+1)=a+((bk x:Nat):Int):=by omega
    simp only[aM hy,aC hy,aO _ hy,aU (show i<=bN by omega),ie,oT,oF,oB,hO,bZ,oN,a0,text (k:=a) (by omega) (by omega),a1,a2];rw[e]) (fun i x a a' hx ha hf=>by
    simp only[aeK]at hf;rw[sX _ hx];omega) (fun a ha=>by
    show rk (km ie bk xs k) a (xs.length:Int)=_;unfold rk;rw[aA (pz _ _ _ _)];try rfl)
 rw[pA bk]at h;have h':MS (km ie bk xs k) k 0=_:=h;rw[h'];try rfl
theorem AO(xs:List iF)(hb:xs.length<=bN/\∀ y∈xs,xo y)(a:Int)(h0:0<=a)(h1:a<=1048576):Li xs a 0=some (if ((cL bp xs:Nat):Int)<=a then .inl (xs,a-(cL bp xs:Nat),(xs.length:Int),())else .inr (-1,())):=by
 have h:=aT (step:=fun(x:(List iF)×Int×Int×Unit)=>qw x.1 x.2.1 x.2.2.1) xs (fun i (a:Int)=>(xs,a,((i:Nat):Int),())) (fun _ x (a:Int)=>bif decide ((bp x:Int)<=a)then Sum.inl (a-bp x)else .inr (.inr (-1,())))
  (fun a=> .inl (xs,a,(xs.length:Int),())) (fun _ a=>0<=a/\a<=1048576) (a0:=a) ⟨h0,h1⟩ (fun i x a hx ha=>by
    have hmem:=aet hx;have hlt:=ai hx;show qw xs a (i:Int)=_;unfold qw;rw[aM hx,aC hx,aO _ hx,UA x a ha.1 ha.2 (hb.2 x hmem),aU (by omega)];dsimp only[oT,oB];by_cases q:((bp x:Nat):Int)<=a
    . rw[dF q,aG (by omega),aeq q];try rfl
    . rw[cg q,aeL q];try rfl) (fun i x a a' hx ha hf=>by
    by_cases q:((bp x:Nat):Int)<=a
    . rw[aeq q]at hf;simp only[oT,aeK]at hf;omega
    . rw[aeL q]at hf;simp at hf) (fun a ha=>by
    show qw xs a (xs.length:Int)=_;unfold qw;rw[aA rfl];try rfl)
 rw[A0 _ _ _ _ _ _ h0]at h;refine Eq.trans h ?_;split <;> rfl
theorem G7(xs:List iF)(left:Int)(h0:0<=left)(h1:left<=1048576)(hb:xs.length<=bN/\∀ y∈xs,xo y):Pv xs left=zR (J4 left (wL bp xs)):=by
 have hw:wL bp xs=xs.length+cL bp xs:=rfl;unfold Pv;dsimp only;rw[fI (s:=xs) (left:=left) (by omega) (by omega) hb.1];by_cases q:((xs.length:Nat):Int)<=left
 . rw[aG (by omega)];dsimp only[oF];rw[AO xs hb _ (by omega) (by omega)];by_cases q2:((cL bp xs:Nat):Int)<=left-(xs.length:Int)
   . rw[if_pos q2,dF (by omega)];dsimp only[oB,oL];have e:left-(xs.length:Int)-(cL bp xs:Nat)=left-((wL bp xs:Nat):Int):=by omega
     rw[e]
   . rw[if_neg q2,cg (by omega)];try rfl
 . rw[aP (by omega),cg (by omega)];try rfl
theorem Qt(xs:List iF)(h:wL bp xs<=1048576):Qj xs=zR xs:=by
 have hb:=bh;have hw:wL bp xs=xs.length+cL bp xs:=rfl;unfold Qj;dsimp only;rw[uJ (by decide) (by omega),mI]
 have h:=aT (step:=fun(x:(List iF)×(List bS)×Int×Unit)=>rG x.1 x.2.1 x.2.2.1) xs (fun i (a:List iF)=>(xs,a++List.replicate (xs.length-i) d100,((i:Nat):Int),())) (fun _ x (a:List iF)=>Sum.inl (a++[x]))
  (fun a=> .inl (xs,a,(xs.length:Int),())) (fun i a=>a.length=i) (a0:=[]) rfl (fun i x a hx ha=>by
    have hlt:=ai hx;have hcm:=jl bp hx;show rG xs (a++List.replicate (xs.length-i) d100) (i:Int)=_;unfold rG;obtain⟨q,hq⟩:∃ q,xs.length-i=q+1:=⟨xs.length-i-1,by omega⟩;have hq':xs.length-(i+1)=q:=by omega
    rw[hq,agh,aM hx,aC hx,aO _ hx,U5 x (by omega)];dsimp only[oT,oB];simp only[fC ha,oG _ ha,eJ ha,aU (show i<=bN by omega),hq',oT,aeO,agp]) (fun i x a a' hx ha hf=>by
    simp only[aeK]at hf;rw[<- hf,aeo,ha];try rfl) (fun a ha=>by
    show rG xs (a++List.replicate (xs.length-xs.length) d100) (xs.length:Int)=_;unfold rG;rw[aA rfl,agb,agi,afd];try rfl)
 rw[ma]at h;have h':LV xs (List.replicate xs.length d100) 0=_:=h;rw[h'];try rfl
theorem Rq(xs:List bS)(h:wL bp xs<=1099511627776):QH xs xs=zR true:=by
 have hb:=bh;have hw:wL bp xs=xs.length+cL bp xs:=rfl;unfold QH;rw[bZ];have h:=aQ (step:=fun(x:(List bS)×(List bS)×Int×Unit)=>qS x.1 x.2.1 x.2.2.1) xs (fun i (_:Unit)=>(xs,xs,((i:Nat):Int),())) (fun _ x _=>Sum.inl ()) (fun _=> .inl (xs,xs,(xs.length:Int),())) (a0:=()) (fun i x a hx=>by
  have hlt:=ai hx;have hcm:=jl bp hx;show qS xs xs (i:Int)=_;unfold qS;rw[aM hx,aC hx,aO _ hx,UE x (by omega),aU (by omega)];try rfl) (fun a=>by
  show qS xs xs (xs.length:Int)=_;unfold qS;rw[aA rfl];try rfl)
 rw[bQ (fun _ a=>a)]at h;have h':KC xs xs 0=_:=h;rw[h'];try rfl
theorem IX(xs:List bS)(k:Int)(h1:1<=k)(h2:k+((cL cz xs:Nat):Int)<=1099511627776)(h3:wL bp xs<=1099511627776):Pf xs k=some (((km il cz xs k,()),()),((k+((cL cz xs:Nat):Int),()),())):=by
 have hb:=bh;have hwl:wL bp xs=xs.length+cL bp xs:=rfl;unfold Pf
 have h:=aT (step:=fun(x:(List bS)×Int×Int×Unit)=>p9 x.1 x.2.1 x.2.2.1) xs (fun i (a:List bS×Int)=>(a.1++xs.drop i,a.2,((i:Nat):Int),())) (fun _ x (a:List bS×Int)=>Sum.inl (a.1++[il x a.2],a.2+((cz x:Nat):Int)))
  (fun a=> .inl (a.1,a.2,(xs.length:Int),())) (fun i a=>a.1.length=i/\1<=a.2/\a.2+((cL cz (xs.drop i):Nat):Int)<=1099511627776) (a0:=([],k)) ⟨rfl,h1,h2⟩ (fun i x a hx ha=>by
    have hlt:=ai hx;have hcm:=jl bp hx;obtain⟨hd,ha1,ha2⟩:=ha;rw[fJ _ hx]at ha2;have hc:cz x=1+1+cL (fun _=>1) x.2.2.1:=rfl;have hw:bp x=x.1.length+x.2.1.length+x.2.2.1.length:=rfl;have a0:ak .i64 a.2 1=a.2+1:=a8 (by omega) (by omega);have a1:ak .i64 (a.2+1) 1=(a.2+1)+1:=a8 (by omega) (by omega);have m2:=uK x.2.2.1 ((a.2+1)+1) (by omega) (by omega);show p9 (a.1++xs.drop i) a.2 (i:Int)=_;unfold p9;have e:(((a.2+1)+1)+((cL (fun _=>1) x.2.2.1:Nat):Int))=a.2+((cz x:Nat):Int):=by omega
    simp only[jT hx,sH hd,fC hd,eJ hd,oG _ hd,aU (show i<=bN by omega),oT,oB,a0,text (k:=a.2) (by omega) (by omega),a1,text (k:=(a.2+1)) (by omega) (by omega),m2];rw[e,aeO];try rfl) (fun i x a a' hx ha hf=>by
    obtain⟨hd,ha1,ha2⟩:=ha;rw[fJ _ hx]at ha2;simp only[aeK]at hf;subst hf;refine⟨by rw[aeo,hd];try rfl,?_,?_⟩
    . show 1<=a.2+((cz x:Nat):Int); omega
    . show a.2+((cz x:Nat):Int)+_<=_; omega) (fun a ha=>by
    show p9 (a.1++xs.drop xs.length) a.2 (xs.length:Int)=_;unfold p9;rw[agj,afd,aA ha.1];try rfl)
 rw[uz il cz]at h;have h':Km xs k 0=_:=h;rw[h'];try rfl
theorem Jk(xs:List bS)(k:Int)(h1:1<=k)(h2:k+((cL cz xs:Nat):Int)<=1099511627776)(h3:wL bp xs<=1099511627776):PO (km il cz xs k) k=zR (k+((cL cz xs:Nat):Int)):=by
 have hb:=bh;have hwl:wL bp xs=xs.length+cL bp xs:=rfl;unfold PO
 have h:=aT (step:=fun(x:(List bS)×Int×Int×Unit)=>qP x.1 x.2.1 x.2.2.1) xs (fun i (a:Int)=>(km il cz xs k,a,((i:Nat):Int),())) (fun _ x (a:Int)=>Sum.inl (a+((cz x:Nat):Int)))
  (fun a=> .inl (km il cz xs k,a,(xs.length:Int),())) (fun i a=>a=k+((cL cz (xs.take i):Nat):Int)) (a0:=k) (by simp[cL]) (fun i x a hx ha=>by
    have hlt:=ai hx;have hcm:=jl bp hx;have hs:=oq cz xs i;have hy:=mj il cz xs k i x hx;rw[fJ _ hx]at hs;rw[<- ha]at hy;have hc:cz x=1+1+cL (fun _=>1) x.2.2.1:=rfl;have hw:bp x=x.1.length+x.2.1.length+x.2.2.1.length:=rfl;have a0:ak .i64 a 1=a+1:=a8 (by omega) (by omega);have a1:ak .i64 (a+1) 1=(a+1)+1:=a8 (by omega) (by omega);have m2:=zp x.2.2.1 ((a+1)+1) (by omega) (by omega);have n2:aD (((a+1)+1)+((cL (fun _=>1) x.2.2.1:Nat):Int)) 0=false:=aG (by omega);show qP (km il cz xs k) a (i:Int)=_;unfold qP;have e:(((a+1)+1)+((cL (fun _=>1) x.2.2.1:Nat):Int))=a+((cz x:Nat):Int):=by omega
    simp only[aM hy,aC hy,aO _ hy,aU (show i<=bN by omega),il,oT,oF,oB,hO,bZ,oN,a0,text (k:=a) (by omega) (by omega),a1,text (k:=(a+1)) (by omega) (by omega),m2,n2];rw[e]) (fun i x a a' hx ha hf=>by
    simp only[aeK]at hf;rw[sX _ hx];omega) (fun a ha=>by
    show qP (km il cz xs k) a (xs.length:Int)=_;unfold qP;rw[aA (pz _ _ _ _)];try rfl)
 rw[pA cz]at h;have h':Kb (km il cz xs k) k 0=_:=h;rw[h'];try rfl
def aH(x:gL):Nat:=x.1.length+wL aX x.2.2.2.2.2.1+du (x.2.2.2.2.2.2.1,x.2.2.2.2.2.2.2.1,x.2.2.2.2.2.2.2.2.1,x.2.2.2.2.2.2.2.2.2.1,())+wL bp x.2.2.2.2.2.2.2.2.2.2.1
def xD(x:gL):Prop:=x.1.length<=bN/\(x.2.2.2.2.2.1.length<=bN/\∀ y∈x.2.2.2.2.2.1,wO y)/\Nr (x.2.2.2.2.2.2.1,x.2.2.2.2.2.2.2.1,x.2.2.2.2.2.2.2.2.1,x.2.2.2.2.2.2.2.2.2.1,())/\(x.2.2.2.2.2.2.2.2.2.2.1.length<=bN/\∀ y∈x.2.2.2.2.2.2.2.2.2.2.1,xo y)
def Kq(x:gL):Prop:=(∀ y∈x.2.2.2.2.2.2.2.2.2.2.1,K1 y)
theorem WU(x:gL)(left:Int)(h0:0<=left)(h1:left<=1048576)(hb:xD x):g73 x left=zR (J4 left (aH x)):=by
 have hw:aH x=x.1.length+wL aX x.2.2.2.2.2.1+du (x.2.2.2.2.2.2.1,x.2.2.2.2.2.2.2.1,x.2.2.2.2.2.2.2.2.1,x.2.2.2.2.2.2.2.2.2.1,())+wL bp x.2.2.2.2.2.2.2.2.2.2.1:=rfl;unfold g73
 try dsimp only
 by_cases q0:((x.1.length:Nat):Int)<=left;rotate_left
 . rw[fI (s:=x.1) (left:=left) (by omega) (by omega) hb.1]; rw[aP (by omega),cg (by omega)];try rfl
 rw[fI (s:=x.1) (left:=left) (by omega) (by omega) hb.1]; rw[aG (by omega)]; dsimp only[oF];by_cases q1:((wL aX x.2.2.2.2.2.1:Nat):Int)<=(left-((x.1.length:Nat):Int));rotate_left
 . rw[Ge x.2.2.2.2.2.1 (left-((x.1.length:Nat):Int)) (by omega) (by omega) (hb.2.1),cg q1,cg (by omega)];try rfl
 rw[Ge x.2.2.2.2.2.1 (left-((x.1.length:Nat):Int)) (by omega) (by omega) (hb.2.1),dF q1]; dsimp only[oB]; rw[aG (by omega)]; dsimp only[oF];by_cases q2:((du (x.2.2.2.2.2.2.1,x.2.2.2.2.2.2.2.1,x.2.2.2.2.2.2.2.2.1,x.2.2.2.2.2.2.2.2.2.1,()):Nat):Int)<=((left-((x.1.length:Nat):Int))-((wL aX x.2.2.2.2.2.1:Nat):Int));rotate_left
 . rw[Ow (x.2.2.2.2.2.2.1,x.2.2.2.2.2.2.2.1,x.2.2.2.2.2.2.2.2.1,x.2.2.2.2.2.2.2.2.2.1,()) ((left-((x.1.length:Nat):Int))-((wL aX x.2.2.2.2.2.1:Nat):Int)) (by omega) (by omega) (hb.2.2.1),cg q2,cg (by omega)];try rfl
 rw[Ow (x.2.2.2.2.2.2.1,x.2.2.2.2.2.2.2.1,x.2.2.2.2.2.2.2.2.1,x.2.2.2.2.2.2.2.2.2.1,()) ((left-((x.1.length:Nat):Int))-((wL aX x.2.2.2.2.2.1:Nat):Int)) (by omega) (by omega) (hb.2.2.1),dF q2]; dsimp only[oB]; rw[aG (by omega)]; dsimp only[oF];by_cases q3:((wL bp x.2.2.2.2.2.2.2.2.2.2.1:Nat):Int)<=(((left-((x.1.length:Nat):Int))-((wL aX x.2.2.2.2.2.1:Nat):Int))-((du (x.2.2.2.2.2.2.1,x.2.2.2.2.2.2.2.1,x.2.2.2.2.2.2.2.2.1,x.2.2.2.2.2.2.2.2.2.1,()):Nat):Int));rotate_left
 . rw[G7 x.2.2.2.2.2.2.2.2.2.2.1 (((left-((x.1.length:Nat):Int))-((wL aX x.2.2.2.2.2.1:Nat):Int))-((du (x.2.2.2.2.2.2.1,x.2.2.2.2.2.2.2.1,x.2.2.2.2.2.2.2.2.1,x.2.2.2.2.2.2.2.2.2.1,()):Nat):Int)) (by omega) (by omega) (hb.2.2.2),cg q3,cg (by omega)];try rfl
 rw[G7 x.2.2.2.2.2.2.2.2.2.2.1 (((left-((x.1.length:Nat):Int))-((wL aX x.2.2.2.2.2.1:Nat):Int))-((du (x.2.2.2.2.2.2.1,x.2.2.2.2.2.2.2.1,x.2.2.2.2.2.2.2.2.1,x.2.2.2.2.2.2.2.2.2.1,()):Nat):Int)) (by omega) (by omega) (hb.2.2.2),dF q3]; dsimp only[oB]; rw[aG (by omega)]; dsimp only[oF];rw[dF (by omega)];have e:((((left-((x.1.length:Nat):Int))-((wL aX x.2.2.2.2.2.1:Nat):Int))-((du (x.2.2.2.2.2.2.1,x.2.2.2.2.2.2.2.1,x.2.2.2.2.2.2.2.2.1,x.2.2.2.2.2.2.2.2.2.1,()):Nat):Int))-((wL bp x.2.2.2.2.2.2.2.2.2.2.1:Nat):Int))=left-((aH x:Nat):Int):=by omega
 rw[e]
theorem U9(x:gL)(h:aH x<=1048576):g75 x=some ((),(x,())):=by have hw:aH x=x.1.length+wL aX x.2.2.2.2.2.1+du (x.2.2.2.2.2.2.1,x.2.2.2.2.2.2.2.1,x.2.2.2.2.2.2.2.2.1,x.2.2.2.2.2.2.2.2.2.1,())+wL bp x.2.2.2.2.2.2.2.2.2.2.1:=rfl;unfold g75;rw[Q4 x.2.2.2.2.2.1 (by omega)];rw[toRing (x.2.2.2.2.2.2.1,x.2.2.2.2.2.2.2.1,x.2.2.2.2.2.2.2.2.1,x.2.2.2.2.2.2.2.2.2.1,()) (by omega)];rw[Qt x.2.2.2.2.2.2.2.2.2.2.1 (by omega)];try rfl
theorem VF(x:gL)(h:aH x<=1099511627776):g76 x x=zR true:=by have hw:aH x=x.1.length+wL aX x.2.2.2.2.2.1+du (x.2.2.2.2.2.2.1,x.2.2.2.2.2.2.2.1,x.2.2.2.2.2.2.2.2.1,x.2.2.2.2.2.2.2.2.2.1,())+wL bp x.2.2.2.2.2.2.2.2.2.2.1:=rfl;unfold g76;simp only[bZ,hO,oN,oF,oB,beq_self_eq_true,Pt x.2.2.2.2.2.1 (by omega),VD (x.2.2.2.2.2.2.1,x.2.2.2.2.2.2.2.1,x.2.2.2.2.2.2.2.2.1,x.2.2.2.2.2.2.2.2.2.1,()) (by omega),Rq x.2.2.2.2.2.2.2.2.2.2.1 (by omega)]
def cy(x:gL):Nat:=1+1+1+1+1+cL bk x.2.2.2.2.2.1+1+1+cL (fun _=>1) x.2.2.2.2.2.2.2.2.1+cL (fun _=>1) x.2.2.2.2.2.2.2.2.2.1+cL cz x.2.2.2.2.2.2.2.2.2.2.1
noncomputable def im(x:gL)(k:Int):gL:=(mt k,(k+1),((k+1)+1),(((k+1)+1)+1),((((k+1)+1)+1)+1),km ie bk x.2.2.2.2.2.1 (((((k+1)+1)+1)+1)+1),((((((k+1)+1)+1)+1)+1)+((cL bk x.2.2.2.2.2.1:Nat):Int)),(((((((k+1)+1)+1)+1)+1)+((cL bk x.2.2.2.2.2.1:Nat):Int))+1),km mkInt (fun _=>1) x.2.2.2.2.2.2.2.2.1 ((((((((k+1)+1)+1)+1)+1)+((cL bk x.2.2.2.2.2.1:Nat):Int))+1)+1),km mkInt (fun _=>1) x.2.2.2.2.2.2.2.2.2.1 (((((((((k+1)+1)+1)+1)+1)+((cL bk x.2.2.2.2.2.1:Nat):Int))+1)+1)+((cL (fun _=>1) x.2.2.2.2.2.2.2.2.1:Nat):Int)),km il cz x.2.2.2.2.2.2.2.2.2.2.1 ((((((((((k+1)+1)+1)+1)+1)+((cL bk x.2.2.2.2.2.1:Nat):Int))+1)+1)+((cL (fun _=>1) x.2.2.2.2.2.2.2.2.1:Nat):Int))+((cL (fun _=>1) x.2.2.2.2.2.2.2.2.2.1:Nat):Int)),())
theorem Jq(x:gL):cy x<=100 * (aH x+1):=by
 have hw:aH x=x.1.length+wL aX x.2.2.2.2.2.1+du (x.2.2.2.2.2.2.1,x.2.2.2.2.2.2.2.1,x.2.2.2.2.2.2.2.2.1,x.2.2.2.2.2.2.2.2.2.1,())+wL bp x.2.2.2.2.2.2.2.2.2.2.1:=rfl;have hc:cy x=1+1+1+1+1+cL bk x.2.2.2.2.2.1+1+1+cL (fun _=>1) x.2.2.2.2.2.2.2.2.1+cL (fun _=>1) x.2.2.2.2.2.2.2.2.2.1+cL cz x.2.2.2.2.2.2.2.2.2.2.1:=rfl;have hw6:du (x.2.2.2.2.2.2.1,x.2.2.2.2.2.2.2.1,x.2.2.2.2.2.2.2.2.1,x.2.2.2.2.2.2.2.2.2.1,())=(x.2.2.2.2.2.2.1,x.2.2.2.2.2.2.2.1,x.2.2.2.2.2.2.2.2.1,x.2.2.2.2.2.2.2.2.2.1,()).2.2.1.length+(x.2.2.2.2.2.2.1,x.2.2.2.2.2.2.2.1,x.2.2.2.2.2.2.2.2.1,x.2.2.2.2.2.2.2.2.2.1,()).2.2.2.1.length:=rfl;have h5:=Gx IQ x.2.2.2.2.2.1;have h8:=lT x.2.2.2.2.2.2.2.2.1;have h9:=lT x.2.2.2.2.2.2.2.2.2.1;have h10:=Gx I1 x.2.2.2.2.2.2.2.2.2.2.1
 try dsimp only at *
 omega
theorem AT(xs:List ir)(hb:xs.length<=bN/\∀ y∈xs,xD y)(a:Int)(h0:0<=a)(h1:a<=1048576):Se xs a 0=some (if ((cL aH xs:Nat):Int)<=a then .inl (xs,a-(cL aH xs:Nat),(xs.length:Int),())else .inr (-1,())):=by
 have h:=aT (step:=fun(x:(List ir)×Int×Int×Unit)=>ym x.1 x.2.1 x.2.2.1) xs (fun i (a:Int)=>(xs,a,((i:Nat):Int),())) (fun _ x (a:Int)=>bif decide ((aH x:Int)<=a)then Sum.inl (a-aH x)else .inr (.inr (-1,())))
  (fun a=> .inl (xs,a,(xs.length:Int),())) (fun _ a=>0<=a/\a<=1048576) (a0:=a) ⟨h0,h1⟩ (fun i x a hx ha=>by
    have hmem:=aet hx;have hlt:=ai hx;show ym xs a (i:Int)=_;unfold ym;rw[aM hx,aC hx,aO _ hx,WU x a ha.1 ha.2 (hb.2 x hmem),aU (by omega)];dsimp only[oT,oB];by_cases q:((aH x:Nat):Int)<=a
    . rw[dF q,aG (by omega),aeq q];try rfl
    . rw[cg q,aeL q];try rfl) (fun i x a a' hx ha hf=>by
    by_cases q:((aH x:Nat):Int)<=a
    . rw[aeq q]at hf;simp only[oT,aeK]at hf;omega
    . rw[aeL q]at hf;simp at hf) (fun a ha=>by
    show ym xs a (xs.length:Int)=_;unfold ym;rw[aA rfl];try rfl)
 rw[A0 _ _ _ _ _ _ h0]at h;refine Eq.trans h ?_;split <;> rfl
theorem GU(xs:List ir)(left:Int)(h0:0<=left)(h1:left<=1048576)(hb:xs.length<=bN/\∀ y∈xs,xD y):g34 xs left=zR (J4 left (wL aH xs)):=by
 have hw:wL aH xs=xs.length+cL aH xs:=rfl;unfold g34;dsimp only;rw[fI (s:=xs) (left:=left) (by omega) (by omega) hb.1];by_cases q:((xs.length:Nat):Int)<=left
 . rw[aG (by omega)];dsimp only[oF];rw[AT xs hb _ (by omega) (by omega)];by_cases q2:((cL aH xs:Nat):Int)<=left-(xs.length:Int)
   . rw[if_pos q2,dF (by omega)];dsimp only[oB,oL];have e:left-(xs.length:Int)-(cL aH xs:Nat)=left-((wL aH xs:Nat):Int):=by omega
     rw[e]
   . rw[if_neg q2,cg (by omega)];try rfl
 . rw[aP (by omega),cg (by omega)];try rfl
theorem Qg(xs:List ir)(h:wL aH xs<=1048576):g36 xs=zR xs:=by
 have hb:=bh;have hw:wL aH xs=xs.length+cL aH xs:=rfl;unfold g36;dsimp only;rw[uJ (by decide) (by omega),mI]
 have h:=aT (step:=fun(x:(List ir)×(List gL)×Int×Unit)=>wG x.1 x.2.1 x.2.2.1) xs (fun i (a:List ir)=>(xs,a++List.replicate (xs.length-i) d94,((i:Nat):Int),())) (fun _ x (a:List ir)=>Sum.inl (a++[x]))
  (fun a=> .inl (xs,a,(xs.length:Int),())) (fun i a=>a.length=i) (a0:=[]) rfl (fun i x a hx ha=>by
    have hlt:=ai hx;have hcm:=jl aH hx;show wG xs (a++List.replicate (xs.length-i) d94) (i:Int)=_;unfold wG;obtain⟨q,hq⟩:∃ q,xs.length-i=q+1:=⟨xs.length-i-1,by omega⟩;have hq':xs.length-(i+1)=q:=by omega
    rw[hq,agh,aM hx,aC hx,aO _ hx,U9 x (by omega)];dsimp only[oT,oB];simp only[fC ha,oG _ ha,eJ ha,aU (show i<=bN by omega),hq',oT,aeO,agp]) (fun i x a a' hx ha hf=>by
    simp only[aeK]at hf;rw[<- hf,aeo,ha];try rfl) (fun a ha=>by
    show wG xs (a++List.replicate (xs.length-xs.length) d94) (xs.length:Int)=_;unfold wG;rw[aA rfl,agb,agi,afd];try rfl)
 rw[ma]at h;have h':S3 xs (List.replicate xs.length d94) 0=_:=h;rw[h'];try rfl
theorem Pl(xs:List gL)(h:wL aH xs<=1099511627776):g39 xs xs=zR true:=by
 have hb:=bh;have hw:wL aH xs=xs.length+cL aH xs:=rfl;unfold g39;rw[bZ];have h:=aQ (step:=fun(x:(List gL)×(List gL)×Int×Unit)=>x7 x.1 x.2.1 x.2.2.1) xs (fun i (_:Unit)=>(xs,xs,((i:Nat):Int),())) (fun _ x _=>Sum.inl ()) (fun _=> .inl (xs,xs,(xs.length:Int),())) (a0:=()) (fun i x a hx=>by
  have hlt:=ai hx;have hcm:=jl aH hx;show x7 xs xs (i:Int)=_;unfold x7;rw[aM hx,aC hx,aO _ hx,VF x (by omega),aU (by omega)];try rfl) (fun a=>by
  show x7 xs xs (xs.length:Int)=_;unfold x7;rw[aA rfl];try rfl)
 rw[bQ (fun _ a=>a)]at h;have h':Ta xs xs 0=_:=h;rw[h'];try rfl
theorem JX(xs:List gL)(k:Int)(h1:1<=k)(h2:k+((cL cy xs:Nat):Int)<=1099511627776)(h3:wL aH xs<=1099511627776):g69 xs k=some (((km im cy xs k,()),()),((k+((cL cy xs:Nat):Int),()),())):=by
 have hb:=bh;have hwl:wL aH xs=xs.length+cL aH xs:=rfl;unfold g69
 have h:=aT (step:=fun(x:(List gL)×Int×Int×Unit)=>xr x.1 x.2.1 x.2.2.1) xs (fun i (a:List gL×Int)=>(a.1++xs.drop i,a.2,((i:Nat):Int),())) (fun _ x (a:List gL×Int)=>Sum.inl (a.1++[im x a.2],a.2+((cy x:Nat):Int)))
  (fun a=> .inl (a.1,a.2,(xs.length:Int),())) (fun i a=>a.1.length=i/\1<=a.2/\a.2+((cL cy (xs.drop i):Nat):Int)<=1099511627776) (a0:=([],k)) ⟨rfl,h1,h2⟩ (fun i x a hx ha=>by
    have hlt:=ai hx;have hcm:=jl aH hx;obtain⟨hd,ha1,ha2⟩:=ha;rw[fJ _ hx]at ha2;have hc:cy x=1+1+1+1+1+cL bk x.2.2.2.2.2.1+1+1+cL (fun _=>1) x.2.2.2.2.2.2.2.2.1+cL (fun _=>1) x.2.2.2.2.2.2.2.2.2.1+cL cz x.2.2.2.2.2.2.2.2.2.2.1:=rfl;have hw:aH x=x.1.length+wL aX x.2.2.2.2.2.1+du (x.2.2.2.2.2.2.1,x.2.2.2.2.2.2.2.1,x.2.2.2.2.2.2.2.2.1,x.2.2.2.2.2.2.2.2.2.1,())+wL bp x.2.2.2.2.2.2.2.2.2.2.1:=rfl;have hw6:du (x.2.2.2.2.2.2.1,x.2.2.2.2.2.2.2.1,x.2.2.2.2.2.2.2.2.1,x.2.2.2.2.2.2.2.2.2.1,())=(x.2.2.2.2.2.2.1,x.2.2.2.2.2.2.2.1,x.2.2.2.2.2.2.2.2.1,x.2.2.2.2.2.2.2.2.2.1,()).2.2.1.length+(x.2.2.2.2.2.2.1,x.2.2.2.2.2.2.2.1,x.2.2.2.2.2.2.2.2.1,x.2.2.2.2.2.2.2.2.2.1,()).2.2.2.1.length:=rfl;have a0:ak .i64 a.2 1=a.2+1:=a8 (by omega) (by omega);have a1:ak .i64 (a.2+1) 1=(a.2+1)+1:=a8 (by omega) (by omega);have a2:ak .i64 ((a.2+1)+1) 1=((a.2+1)+1)+1:=a8 (by omega) (by omega);have a3:ak .i64 (((a.2+1)+1)+1) 1=(((a.2+1)+1)+1)+1:=a8 (by omega) (by omega);have a4:ak .i64 ((((a.2+1)+1)+1)+1) 1=((((a.2+1)+1)+1)+1)+1:=a8 (by omega) (by omega);have m5:=IU x.2.2.2.2.2.1 (((((a.2+1)+1)+1)+1)+1) (by omega) (by omega) (by omega);have a6:ak .i64 ((((((a.2+1)+1)+1)+1)+1)+((cL bk x.2.2.2.2.2.1:Nat):Int)) 1=((((((a.2+1)+1)+1)+1)+1)+((cL bk x.2.2.2.2.2.1:Nat):Int))+1:=a8 (by omega) (by omega);have a7:ak .i64 (((((((a.2+1)+1)+1)+1)+1)+((cL bk x.2.2.2.2.2.1:Nat):Int))+1) 1=(((((((a.2+1)+1)+1)+1)+1)+((cL bk x.2.2.2.2.2.1:Nat):Int))+1)+1:=a8 (by omega) (by omega);have m8:=B1 x.2.2.2.2.2.2.2.2.1 ((((((((a.2+1)+1)+1)+1)+1)+((cL bk x.2.2.2.2.2.1:Nat):Int))+1)+1) (by omega) (by omega);have m9:=B1 x.2.2.2.2.2.2.2.2.2.1 (((((((((a.2+1)+1)+1)+1)+1)+((cL bk x.2.2.2.2.2.1:Nat):Int))+1)+1)+((cL (fun _=>1) x.2.2.2.2.2.2.2.2.1:Nat):Int)) (by omega) (by omega);have m10:=IX x.2.2.2.2.2.2.2.2.2.2.1 ((((((((((a.2+1)+1)+1)+1)+1)+((cL bk x.2.2.2.2.2.1:Nat):Int))+1)+1)+((cL (fun _=>1) x.2.2.2.2.2.2.2.2.1:Nat):Int))+((cL (fun _=>1) x.2.2.2.2.2.2.2.2.2.1:Nat):Int)) (by omega) (by omega) (by omega);show xr (a.1++xs.drop i) a.2 (i:Int)=_;unfold xr;have e:(((((((((((a.2+1)+1)+1)+1)+1)+((cL bk x.2.2.2.2.2.1:Nat):Int))+1)+1)+((cL (fun _=>1) x.2.2.2.2.2.2.2.2.1:Nat):Int))+((cL (fun _=>1) x.2.2.2.2.2.2.2.2.2.1:Nat):Int))+((cL cz x.2.2.2.2.2.2.2.2.2.2.1:Nat):Int))=a.2+((cy x:Nat):Int):=by omega
    simp only[jT hx,sH hd,fC hd,eJ hd,oG _ hd,aU (show i<=bN by omega),oT,oB,a0,text (k:=a.2) (by omega) (by omega),a1,a2,a3,a4,m5,a6,a7,m8,m9,m10];rw[e,aeO];try rfl) (fun i x a a' hx ha hf=>by
    obtain⟨hd,ha1,ha2⟩:=ha;rw[fJ _ hx]at ha2;simp only[aeK]at hf;subst hf;refine⟨by rw[aeo,hd];try rfl,?_,?_⟩
    . show 1<=a.2+((cy x:Nat):Int); omega
    . show a.2+((cy x:Nat):Int)+_<=_; omega) (fun a ha=>by
    show xr (a.1++xs.drop xs.length) a.2 (xs.length:Int)=_;unfold xr;rw[agj,afd,aA ha.1];try rfl)
 rw[uz im cy]at h;have h':TS xs k 0=_:=h;rw[h'];try rfl
theorem I3(xs:List gL)(k:Int)(h1:1<=k)(h2:k+((cL cy xs:Nat):Int)<=1099511627776)(h3:wL aH xs<=1099511627776):g70 (km im cy xs k) k=zR (k+((cL cy xs:Nat):Int)):=by
 have hb:=bh;have hwl:wL aH xs=xs.length+cL aH xs:=rfl;unfold g70
 have h:=aT (step:=fun(x:(List gL)×Int×Int×Unit)=>wS x.1 x.2.1 x.2.2.1) xs (fun i (a:Int)=>(km im cy xs k,a,((i:Nat):Int),())) (fun _ x (a:Int)=>Sum.inl (a+((cy x:Nat):Int)))
  (fun a=> .inl (km im cy xs k,a,(xs.length:Int),())) (fun i a=>a=k+((cL cy (xs.take i):Nat):Int)) (a0:=k) (by simp[cL]) (fun i x a hx ha=>by
    have hlt:=ai hx;have hcm:=jl aH hx;have hs:=oq cy xs i;have hy:=mj im cy xs k i x hx;rw[fJ _ hx]at hs;rw[<- ha]at hy;have hc:cy x=1+1+1+1+1+cL bk x.2.2.2.2.2.1+1+1+cL (fun _=>1) x.2.2.2.2.2.2.2.2.1+cL (fun _=>1) x.2.2.2.2.2.2.2.2.2.1+cL cz x.2.2.2.2.2.2.2.2.2.2.1:=rfl;have hw:aH x=x.1.length+wL aX x.2.2.2.2.2.1+du (x.2.2.2.2.2.2.1,x.2.2.2.2.2.2.2.1,x.2.2.2.2.2.2.2.2.1,x.2.2.2.2.2.2.2.2.2.1,())+wL bp x.2.2.2.2.2.2.2.2.2.2.1:=rfl;have hw6:du (x.2.2.2.2.2.2.1,x.2.2.2.2.2.2.2.1,x.2.2.2.2.2.2.2.2.1,x.2.2.2.2.2.2.2.2.2.1,())=(x.2.2.2.2.2.2.1,x.2.2.2.2.2.2.2.1,x.2.2.2.2.2.2.2.2.1,x.2.2.2.2.2.2.2.2.2.1,()).2.2.1.length+(x.2.2.2.2.2.2.1,x.2.2.2.2.2.2.2.1,x.2.2.2.2.2.2.2.2.1,x.2.2.2.2.2.2.2.2.2.1,()).2.2.2.1.length:=rfl;have a0:ak .i64 a 1=a+1:=a8 (by omega) (by omega);have a1:ak .i64 (a+1) 1=(a+1)+1:=a8 (by omega) (by omega);have a2:ak .i64 ((a+1)+1) 1=((a+1)+1)+1:=a8 (by omega) (by omega);have a3:ak .i64 (((a+1)+1)+1) 1=(((a+1)+1)+1)+1:=a8 (by omega) (by omega);have a4:ak .i64 ((((a+1)+1)+1)+1) 1=((((a+1)+1)+1)+1)+1:=a8 (by omega) (by omega);have m5:=Ip x.2.2.2.2.2.1 (((((a+1)+1)+1)+1)+1) (by omega) (by omega) (by omega);have n5:aD ((((((a+1)+1)+1)+1)+1)+((cL bk x.2.2.2.2.2.1:Nat):Int)) 0=false:=aG (by omega);have a6:ak .i64 ((((((a+1)+1)+1)+1)+1)+((cL bk x.2.2.2.2.2.1:Nat):Int)) 1=((((((a+1)+1)+1)+1)+1)+((cL bk x.2.2.2.2.2.1:Nat):Int))+1:=a8 (by omega) (by omega);have a7:ak .i64 (((((((a+1)+1)+1)+1)+1)+((cL bk x.2.2.2.2.2.1:Nat):Int))+1) 1=(((((((a+1)+1)+1)+1)+1)+((cL bk x.2.2.2.2.2.1:Nat):Int))+1)+1:=a8 (by omega) (by omega);have m8:=DM x.2.2.2.2.2.2.2.2.1 ((((((((a+1)+1)+1)+1)+1)+((cL bk x.2.2.2.2.2.1:Nat):Int))+1)+1) (by omega) (by omega);have n8:aD (((((((((a+1)+1)+1)+1)+1)+((cL bk x.2.2.2.2.2.1:Nat):Int))+1)+1)+((cL (fun _=>1) x.2.2.2.2.2.2.2.2.1:Nat):Int)) 0=false:=aG (by omega);have m9:=DM x.2.2.2.2.2.2.2.2.2.1 (((((((((a+1)+1)+1)+1)+1)+((cL bk x.2.2.2.2.2.1:Nat):Int))+1)+1)+((cL (fun _=>1) x.2.2.2.2.2.2.2.2.1:Nat):Int)) (by omega) (by omega);have n9:aD ((((((((((a+1)+1)+1)+1)+1)+((cL bk x.2.2.2.2.2.1:Nat):Int))+1)+1)+((cL (fun _=>1) x.2.2.2.2.2.2.2.2.1:Nat):Int))+((cL (fun _=>1) x.2.2.2.2.2.2.2.2.2.1:Nat):Int)) 0=false:=aG (by omega);have m10:=Jk x.2.2.2.2.2.2.2.2.2.2.1 ((((((((((a+1)+1)+1)+1)+1)+((cL bk x.2.2.2.2.2.1:Nat):Int))+1)+1)+((cL (fun _=>1) x.2.2.2.2.2.2.2.2.1:Nat):Int))+((cL (fun _=>1) x.2.2.2.2.2.2.2.2.2.1:Nat):Int)) (by omega) (by omega) (by omega);have n10:aD (((((((((((a+1)+1)+1)+1)+1)+((cL bk x.2.2.2.2.2.1:Nat):Int))+1)+1)+((cL (fun _=>1) x.2.2.2.2.2.2.2.2.1:Nat):Int))+((cL (fun _=>1) x.2.2.2.2.2.2.2.2.2.1:Nat):Int))+((cL cz x.2.2.2.2.2.2.2.2.2.2.1:Nat):Int)) 0=false:=aG (by omega);show wS (km im cy xs k) a (i:Int)=_;unfold wS;have e:(((((((((((a+1)+1)+1)+1)+1)+((cL bk x.2.2.2.2.2.1:Nat):Int))+1)+1)+((cL (fun _=>1) x.2.2.2.2.2.2.2.2.1:Nat):Int))+((cL (fun _=>1) x.2.2.2.2.2.2.2.2.2.1:Nat):Int))+((cL cz x.2.2.2.2.2.2.2.2.2.2.1:Nat):Int))=a+((cy x:Nat):Int):=by omega
    simp only[aM hy,aC hy,aO _ hy,aU (show i<=bN by omega),im,oT,oF,oB,hO,bZ,oN,a0,text (k:=a) (by omega) (by omega),a1,a2,a3,a4,m5,n5,a6,a7,m8,n8,m9,n9,m10,n10];rw[e]) (fun i x a a' hx ha hf=>by
    simp only[aeK]at hf;rw[sX _ hx];omega) (fun a ha=>by
    show wS (km im cy xs k) a (xs.length:Int)=_;unfold wS;rw[aA (pz _ _ _ _)];try rfl)
 rw[pA cy]at h;have h':SJ (km im cy xs k) k 0=_:=h;rw[h'];try rfl
def jR(x:((List ir)×Unit)):Nat:=wL aH x.1
def Eu(x:((List ir)×Unit)):Prop:=(x.1.length<=bN/\∀ y∈x.1,xD y)
def Mr(x:((List ir)×Unit)):Prop:=(∀ y∈x.1,Kq y)
theorem Uf(x:((List ir)×Unit))(left:Int)(h0:0<=left)(h1:left<=1048576)(hb:Eu x):g7 x left=zR (J4 left (jR x)):=by
 have hw:jR x=wL aH x.1:=rfl;unfold g7
 try dsimp only
 by_cases q0:((wL aH x.1:Nat):Int)<=left;rotate_left
 . rw[GU x.1 left (by omega) (by omega) (hb),cg q0,cg (by omega)];try rfl
 rw[GU x.1 left (by omega) (by omega) (hb),dF q0]; dsimp only[oB]; rw[aG (by omega)]; dsimp only[oF];rw[dF (by omega)];have e:(left-((wL aH x.1:Nat):Int))=left-((jR x:Nat):Int):=by omega
 rw[e]
theorem VU(x:((List ir)×Unit))(h:jR x<=1048576):g10 x=some ((),(x,())):=by have hw:jR x=wL aH x.1:=rfl;unfold g10;rw[Qg x.1 (by omega)];try rfl
theorem KX(x:((List ir)×Unit))(h:jR x<=1099511627776):g13 x x=zR true:=by have hw:jR x=wL aH x.1:=rfl;unfold g13;simp only[bZ,hO,oN,oF,oB,beq_self_eq_true,Pl x.1 (by omega)]
def ki(x:((List ir)×Unit)):Nat:=cL cy x.1
noncomputable def FL(x:((List ir)×Unit))(k:Int):((List ir)×Unit):=(km im cy x.1 k,())
theorem CK(x:((List ir)×Unit)):ki x<=100 * jR x:=by have hw:jR x=wL aH x.1:=rfl;have hc:ki x=cL cy x.1:=rfl;have h0:=Gx Jq x.1;omega
theorem Df(x:((List ir)×Unit))(k:Int)(h1:1<=k)(h2:k+((ki x:Nat):Int)<=1099511627776)(h3:jR x<=1099511627776):g19 x k=some ((FL x k,()),((k+((ki x:Nat):Int),()),())):=by
 have hb:=bh;have hw:jR x=wL aH x.1:=rfl;have hc:ki x=cL cy x.1:=rfl;have m0:=JX x.1 k (by omega) (by omega) (by omega);unfold g19;have e:(k+((cL cy x.1:Nat):Int))=k+((ki x:Nat):Int):=by omega
 rw[m0]; dsimp only[oB,oF];rw[e]
 try rfl
theorem Nw(x:((List ir)×Unit))(k:Int)(h1:1<=k)(h2:k+((ki x:Nat):Int)<=1099511627776)(h3:jR x<=1099511627776):g21 (FL x k) k=zR (k+((ki x:Nat):Int)):=by
 have hb:=bh;have hw:jR x=wL aH x.1:=rfl;have hc:ki x=cL cy x.1:=rfl;have m0:=I3 x.1 k (by omega) (by omega) (by omega);have n0:aD (k+((cL cy x.1:Nat):Int)) 0=false:=aG (by omega);unfold g21;have e:(k+((cL cy x.1:Nat):Int))=k+((ki x:Nat):Int):=by omega
 unfold FL;dsimp only;rw[m0]; dsimp only[oB,oF];rw[n0]; dsimp only[oB,oF];rw[e]
end Go.Av
