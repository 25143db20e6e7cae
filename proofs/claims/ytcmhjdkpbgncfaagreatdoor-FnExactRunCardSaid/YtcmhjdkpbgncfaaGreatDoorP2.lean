/- FnExactRun, a part. -/
import Derived.Test.YtcmhjdkpbgncfaaGreatDoorP1
import Derived.Test.YtcmhjdkpbgncfaaGreatDoorFw4
set_option maxRecDepth 100000
set_option maxHeartbeats 4000000
namespace Go.Av
theorem MT:∀(n:Nat) (t:Int) (s:S8),0<=t->t<10 ^ n->n<=18->s.length+n<=1000->∃ t' s',TQ t s=some (.inl (t',s',()))/\s'.length<=s.length+n:=by
 intro n;have bp:=bk;induction n with
 | zero =>
   intro t s h0 h1 h3 h2;refine⟨t,s,?_,by omega⟩;have:t=0:=by simp at h1; omega
   subst this;exact dK _ (by show qF 0 s=_; unfold qF; rfl)
 | succ n ih =>
   intro t s h0 h1 h3 h2;by_cases ht:0<t
   . have hp:t<10 ^ n * 10:=by rw[Int.pow_succ]at h1; exact h1
     have hle:(10:Int) ^ n<=10 ^ 18:=by
      have hn:n<=18:=by omega
      exact_mod_cast (aor (by decide) hn:10 ^ n<=10 ^ 18)
     have ama:(10:Int) ^ n<=1000000000000000000:=hle;have hq:kq .i64 t 10=t / 10:=by unfold kq;rw[anO h0];exact IntWalk.i64_in _ (by omega)
     have hc:(strOf [((dC .u8 (ak .i64 48 (eH t 10))),())]).length=1:=rfl;have OV:(uy (strOf [((dC .u8 (ak .i64 48 (eH t 10))),())]) s).length=1+s.length:=by rw[<- hc]; exact amf
     obtain⟨t',s',e1,e2⟩:=ih (t / 10) (uy (strOf [((dC .u8 (ak .i64 48 (eH t 10))),())]) s) (by omega) (by omega) (by omega) (by omega);refine⟨t',s',ez _ (x':=(t / 10,uy (strOf [((dC .u8 (ak .i64 48 (eH t 10))),())]) s,())) ?_ e1,by omega⟩;show qF t s=_;unfold qF;have hf:jL (strOf [((dC .u8 (ak .i64 48 (eH t 10))),())]) s=true:=amm (by omega);dsimp only;rw[aR ht,hq,hf];try rfl
   . refine⟨t,s,?_,by omega⟩;exact dK _ (by show qF t s=_; unfold qF; rw[aF ht];try rfl)
noncomputable def mt(k:Int):S8:=match wC k with | some y=>y.2.1.1 | none=>[]
theorem text{k:Int}(h1:1<=k)(h2:k<=99999999999999999):wC k=zR (mt k):=by
 have bp:=bk;obtain⟨t',s',e1,e2⟩:=MT 17 k [] (by omega) (by omega) (by decide) (by simp);have hr:wC k=zR (uy [109] s'):=by unfold wC;have hf:jL [109] s'=true:=amm (by simp at e2 ⊢; omega);have hle:ck k 0=false:=amB (by omega);rw[hle,e1];dsimp only[oF,oB,oL];rw[hf];try rfl
 have hm:mt k=uy [109] s':=by unfold mt; rw[hr]
 rw[hm]; exact hr
def aZ(x:kF):Nat:=x.1.length
def zf(x:kF):Prop:=x.1.length<=bQ
theorem abV(x:kF)(left:Int)(h0:0<=left)(h1:left<=1048576)(hb:zf x):Wa x left=zR (KK left (aZ x)):=by
 have hw:aZ x=x.1.length:=rfl;unfold Wa
 try dsimp only
 by_cases q0:((x.1.length:Nat):Int)<=left;rotate_left
 . rw[fW (s:=x.1) (left:=left) (by omega) (by omega) hb]; rw[aR (by omega),bL (by omega)];try rfl
 rw[fW (s:=x.1) (left:=left) (by omega) (by omega) hb]; rw[aF (by omega)]; dsimp only[oF];rw[cV (by omega)];have e:(left-((x.1.length:Nat):Int))=left-((aZ x:Nat):Int):=by omega
 rw[e]
theorem adn(x:kF)(h:aZ x<=1048576):Vr x=some ((),(x,())):=by have hw:aZ x=x.1.length:=rfl;unfold Vr;rfl
theorem abp(x:kF)(h:aZ x<=1099511627776):Wm x x=zR true:=by have hw:aZ x=x.1.length:=rfl;unfold Wm;simp only[bX,gI,oN,oF,oB,beq_self_eq_true]
def bu(x:kF):Nat:=1+1+1
noncomputable def jr(x:kF)(k:Int):kF:=(mt k,(k+1),((k+1)+1),())
theorem MJ(x:kF):bu x<=100 * (aZ x+1):=by
 have hw:aZ x=x.1.length:=rfl;have hc:bu x=1+1+1:=rfl
 try dsimp only at *
 omega
theorem DJ(x:(List R3))(left:Int)(h0:0<=left)(h1:left<=1048576)(hb:x.length<=bQ):Tm x left=zR (KK left x.length):=by
 unfold Tm;dsimp only;by_cases q:((x.length:Nat):Int)<=left
 . rw[fW (s:=x) (left:=left) (by omega) (by omega) hb,aF (by omega),cV q];try rfl
 . rw[fW (s:=x) (left:=left) (by omega) (by omega) hb,aR (by omega),bL q];try rfl
theorem T4(xs:List R3)(h:xs.length<=1048576):g30 xs=zR xs:=by
 have hb:=bk;unfold g30;dsimp only;rw[si (by decide) (by omega),mC]
 have h:=aP (step:=fun(x:(List R3)×(List R3)×Int×Unit)=>zJ x.1 x.2.1 x.2.2.1) xs (fun i (a:List R3)=>(xs,a++List.replicate (xs.length-i) d3,((i:Nat):Int),())) (fun _ x (a:List R3)=>Sum.inl (a++[x]))
  (fun a=> .inl (xs,a,(xs.length:Int),())) (fun i a=>a.length=i) (a0:=[]) rfl (fun i x a hx ha=>by
    have aV:=ah hx;show zJ xs (a++List.replicate (xs.length-i) d3) (i:Int)=_;unfold zJ;obtain⟨q,hq⟩:∃ q,xs.length-i=q+1:=⟨xs.length-i-1,by omega⟩;have v7:xs.length-(i+1)=q:=by omega
    rw[hq,an2,aL hx,aD hx,fc ha,aM _ hx,eu ha,aU (by omega),v7];dsimp only[oT];rw[amD];try rfl) (fun i x a a' hx ha hf=>by
    simp only[amu]at hf;rw[<- hf,amf,ha];try rfl) (fun a ha=>by
    show zJ xs (a++List.replicate (xs.length-xs.length) d3) (xs.length:Int)=_;unfold zJ;rw[aA rfl,an4,an3,amV];try rfl)
 rw[mw]at h;have h':YN xs (List.replicate xs.length d3) 0=_:=h;rw[h'];try rfl
theorem RK(xs:List R3)(h:xs.length<=1099511627776):g32 xs xs=zR true:=by
 have hb:=bk;unfold g32;rw[bX];have h:=aS (step:=fun(x:(List R3)×(List R3)×Int×Unit)=>AN x.1 x.2.1 x.2.2.1) xs (fun i (_:Unit)=>(xs,xs,((i:Nat):Int),())) (fun _ x _=>Sum.inl ()) (fun _=> .inl (xs,xs,(xs.length:Int),())) (a0:=()) (fun i x a hx=>by
  have aV:=ah hx;show AN xs xs (i:Int)=_;unfold AN;rw[aL hx,aD hx,aM _ hx,bX,aU (by omega)];try rfl) (fun a=>by
  show AN xs xs (xs.length:Int)=_;unfold AN;rw[aA rfl];try rfl)
 rw[bS (fun _ a=>a)]at h;have h':Y5 xs xs 0=_:=h;rw[h'];try rfl
def mkInt(x:Int×Unit)(k:Int):Int×Unit:=(k,())
theorem HK(xs:List R3)(k:Int)(h1:1<=k)(h2:k+((cL (fun _=>1) xs:Nat):Int)<=1099511627776):g33 xs k=some (((jW mkInt (fun _=>1) xs k,()),()),((k+((cL (fun _=>1) xs:Nat):Int),()),())):=by
 have hb:=bk;have hlen:xs.length<=1099511627776:=by rw[nD]at h2; omega
 unfold g33
 have h:=aP (step:=fun(x:(List R3)×Int×Int×Unit)=>At x.1 x.2.1 x.2.2.1) xs (fun i (a:List R3×Int)=>(a.1++xs.drop i,a.2,((i:Nat):Int),())) (fun _ x (a:List R3×Int)=>Sum.inl (a.1++[mkInt x a.2],a.2+((1:Nat):Int)))
  (fun a=> .inl (a.1,a.2,(xs.length:Int),())) (fun i a=>a.1.length=i/\1<=a.2/\a.2+((cL (fun _=>1) (xs.drop i):Nat):Int)<=1099511627776) (a0:=([],k)) ⟨rfl,h1,h2⟩ (fun i x a hx ha=>by
    have aV:=ah hx;obtain⟨hd,Ck,uw⟩:=ha;rw[er _ hx]at uw;have a1:ak .i64 a.2 1=a.2+1:=bd (by omega) (by omega);show At (a.1++xs.drop i) a.2 (i:Int)=_;unfold At;rw[iX hx,oW hd,fc hd,eu hd,aU (by omega),a1];dsimp only[oT];rw[amD];try rfl) (fun i x a a' hx ha hf=>by
    obtain⟨hd,Ck,uw⟩:=ha;rw[er _ hx]at uw;simp only[amu]at hf;subst hf;refine⟨by rw[amf,hd];try rfl,?_,?_⟩
    . show 1<=a.2+((1:Nat):Int); omega
    . show a.2+((1:Nat):Int)+_<=_; omega) (fun a ha=>by
    show At (a.1++xs.drop xs.length) a.2 (xs.length:Int)=_;unfold At;rw[anY,amV,aA ha.1];try rfl)
 rw[qk mkInt (fun _=>1)]at h;have h':ZE xs k 0=_:=h;rw[h'];try rfl
theorem GR(xs:List R3)(k:Int)(h1:1<=k)(h2:k+((cL (fun _=>1) xs:Nat):Int)<=1099511627776):Q4 (jW mkInt (fun _=>1) xs k) k=zR (k+((cL (fun _=>1) xs:Nat):Int)):=by
 have hb:=bk;have hlen:xs.length<=1099511627776:=by rw[nD]at h2; omega
 unfold Q4
 have h:=aP (step:=fun(x:(List R3)×Int×Int×Unit)=>tO x.1 x.2.1 x.2.2.1) xs (fun i (a:Int)=>(jW mkInt (fun _=>1) xs k,a,((i:Nat):Int),())) (fun _ x (a:Int)=>Sum.inl (a+((1:Nat):Int)))
  (fun a=> .inl (jW mkInt (fun _=>1) xs k,a,(xs.length:Int),())) (fun i a=>a=k+((cL (fun _=>1) (xs.take i):Nat):Int)) (a0:=k) (by simp[cL]) (fun i x a hx ha=>by
    have aV:=ah hx;have hs:=oE (fun _=>1) xs i;have hy:=my mkInt (fun _=>1) xs k i x hx;rw[er _ hx]at hs;rw[<- ha]at hy;have a1:ak .i64 a 1=a+1:=bd (by omega) (by omega);show tO (jW mkInt (fun _=>1) xs k) a (i:Int)=_;unfold tO;rw[aL hy,aD hy,aM _ hy,aU (by omega),a1];simp only[mkInt,bX,oN,oT,oF];try rfl) (fun i x a a' hx ha hf=>by
    simp only[amu]at hf;rw[qZ _ hx];omega) (fun a ha=>by
    show tO (jW mkInt (fun _=>1) xs k) a (xs.length:Int)=_;unfold tO;rw[aA (pI _ _ _ _)];try rfl)
 rw[px (fun _=>1)]at h;have h':SQ (jW mkInt (fun _=>1) xs k) k 0=_:=h;rw[h'];try rfl
def dF(x:(Int×Int×(List R3)×(List R3)×Unit)):Nat:=x.2.2.1.length+x.2.2.2.1.length
def Th(x:(Int×Int×(List R3)×(List R3)×Unit)):Prop:=x.2.2.1.length<=bQ/\x.2.2.2.1.length<=bQ
theorem Rb(x:(Int×Int×(List R3)×(List R3)×Unit))(left:Int)(h0:0<=left)(h1:left<=1048576)(hb:Th x):VO x left=zR (KK left (dF x)):=by
 have hw:dF x=x.2.2.1.length+x.2.2.2.1.length:=rfl;unfold VO
 try dsimp only
 by_cases q0:((x.2.2.1.length:Nat):Int)<=left;rotate_left
 . rw[DJ x.2.2.1 left (by omega) (by omega) (hb.1),bL q0,bL (by omega)];try rfl
 rw[DJ x.2.2.1 left (by omega) (by omega) (hb.1),cV q0]; dsimp only[oB]; rw[aF (by omega)]; dsimp only[oF];by_cases q1:((x.2.2.2.1.length:Nat):Int)<=(left-((x.2.2.1.length:Nat):Int));rotate_left
 . rw[DJ x.2.2.2.1 (left-((x.2.2.1.length:Nat):Int)) (by omega) (by omega) (hb.2),bL q1,bL (by omega)];try rfl
 rw[DJ x.2.2.2.1 (left-((x.2.2.1.length:Nat):Int)) (by omega) (by omega) (hb.2),cV q1]; dsimp only[oB]; rw[aF (by omega)]; dsimp only[oF];rw[cV (by omega)];have e:((left-((x.2.2.1.length:Nat):Int))-((x.2.2.2.1.length:Nat):Int))=left-((dF x:Nat):Int):=by omega
 rw[e]
theorem toRing(x:(Int×Int×(List R3)×(List R3)×Unit))(h:dF x<=1048576):WT x=some ((),(x,())):=by have hw:dF x=x.2.2.1.length+x.2.2.2.1.length:=rfl;unfold WT;rw[T4 x.2.2.1 (by omega)];rw[T4 x.2.2.2.1 (by omega)];try rfl
theorem abR(x:(Int×Int×(List R3)×(List R3)×Unit))(h:dF x<=1099511627776):VZ x x=zR true:=by have hw:dF x=x.2.2.1.length+x.2.2.2.1.length:=rfl;unfold VZ;simp only[bX,gI,oN,oF,oB,beq_self_eq_true,RK x.2.2.1 (by omega),RK x.2.2.2.1 (by omega)]
theorem qT(x:(List R5))(left:Int)(h0:0<=left)(h1:left<=1048576)(hb:x.length<=bQ):g74 x left=zR (KK left x.length):=by
 unfold g74;dsimp only;by_cases q:((x.length:Nat):Int)<=left
 . rw[fW (s:=x) (left:=left) (by omega) (by omega) hb,aF (by omega),cV q];try rfl
 . rw[fW (s:=x) (left:=left) (by omega) (by omega) hb,aR (by omega),bL q];try rfl
theorem EM(xs:List R5)(h:xs.length<=1048576):g16 xs=zR xs:=by
 have hb:=bk;unfold g16;dsimp only;rw[si (by decide) (by omega),mC]
 have h:=aP (step:=fun(x:(List R5)×(List R5)×Int×Unit)=>zI x.1 x.2.1 x.2.2.1) xs (fun i (a:List R5)=>(xs,a++List.replicate (xs.length-i) d5,((i:Nat):Int),())) (fun _ x (a:List R5)=>Sum.inl (a++[x]))
  (fun a=> .inl (xs,a,(xs.length:Int),())) (fun i a=>a.length=i) (a0:=[]) rfl (fun i x a hx ha=>by
    have aV:=ah hx;show zI xs (a++List.replicate (xs.length-i) d5) (i:Int)=_;unfold zI;obtain⟨q,hq⟩:∃ q,xs.length-i=q+1:=⟨xs.length-i-1,by omega⟩;have v7:xs.length-(i+1)=q:=by omega
    rw[hq,an2,aL hx,aD hx,fc ha,aM _ hx,eu ha,aU (by omega),v7];dsimp only[oT];rw[amD];try rfl) (fun i x a a' hx ha hf=>by
    simp only[amu]at hf;rw[<- hf,amf,ha];try rfl) (fun a ha=>by
    show zI xs (a++List.replicate (xs.length-xs.length) d5) (xs.length:Int)=_;unfold zI;rw[aA rfl,an4,an3,amV];try rfl)
 rw[mw]at h;have h':Yz xs (List.replicate xs.length d5) 0=_:=h;rw[h'];try rfl
theorem yt(xs:List R5)(h:xs.length<=1099511627776):g18 xs xs=zR true:=by
 have hb:=bk;unfold g18;rw[bX];have h:=aS (step:=fun(x:(List R5)×(List R5)×Int×Unit)=>AX x.1 x.2.1 x.2.2.1) xs (fun i (_:Unit)=>(xs,xs,((i:Nat):Int),())) (fun _ x _=>Sum.inl ()) (fun _=> .inl (xs,xs,(xs.length:Int),())) (a0:=()) (fun i x a hx=>by
  have aV:=ah hx;show AX xs xs (i:Int)=_;unfold AX;rw[aL hx,aD hx,aM _ hx,bX,aU (by omega)];try rfl) (fun a=>by
  show AX xs xs (xs.length:Int)=_;unfold AX;rw[aA rfl];try rfl)
 rw[bS (fun _ a=>a)]at h;have h':Z3 xs xs 0=_:=h;rw[h'];try rfl
def jF(x:Int×Unit)(k:Int):Int×Unit:=(dC .u8 k,())
theorem rk(xs:List R5)(k:Int)(h1:1<=k)(h2:k+((cL (fun _=>1) xs:Nat):Int)<=1099511627776):g20 xs k=some (((jW jF (fun _=>1) xs k,()),()),((k+((cL (fun _=>1) xs:Nat):Int),()),())):=by
 have hb:=bk;have hlen:xs.length<=1099511627776:=by rw[nD]at h2; omega
 unfold g20
 have h:=aP (step:=fun(x:(List R5)×Int×Int×Unit)=>zy x.1 x.2.1 x.2.2.1) xs (fun i (a:List R5×Int)=>(a.1++xs.drop i,a.2,((i:Nat):Int),())) (fun _ x (a:List R5×Int)=>Sum.inl (a.1++[jF x a.2],a.2+((1:Nat):Int)))
  (fun a=> .inl (a.1,a.2,(xs.length:Int),())) (fun i a=>a.1.length=i/\1<=a.2/\a.2+((cL (fun _=>1) (xs.drop i):Nat):Int)<=1099511627776) (a0:=([],k)) ⟨rfl,h1,h2⟩ (fun i x a hx ha=>by
    have aV:=ah hx;obtain⟨hd,Ck,uw⟩:=ha;rw[er _ hx]at uw;have a1:ak .i64 a.2 1=a.2+1:=bd (by omega) (by omega);show zy (a.1++xs.drop i) a.2 (i:Int)=_;unfold zy;rw[iX hx,oW hd,fc hd,eu hd,aU (by omega),a1];dsimp only[oT];rw[amD];try rfl) (fun i x a a' hx ha hf=>by
    obtain⟨hd,Ck,uw⟩:=ha;rw[er _ hx]at uw;simp only[amu]at hf;subst hf;refine⟨by rw[amf,hd];try rfl,?_,?_⟩
    . show 1<=a.2+((1:Nat):Int); omega
    . show a.2+((1:Nat):Int)+_<=_; omega) (fun a ha=>by
    show zy (a.1++xs.drop xs.length) a.2 (xs.length:Int)=_;unfold zy;rw[anY,amV,aA ha.1];try rfl)
 rw[qk jF (fun _=>1)]at h;have h':ZD xs k 0=_:=h;rw[h'];try rfl
theorem Cm(xs:List R5)(k:Int)(h1:1<=k)(h2:k+((cL (fun _=>1) xs:Nat):Int)<=1099511627776):g22 (jW jF (fun _=>1) xs k) k=zR (k+((cL (fun _=>1) xs:Nat):Int)):=by
 have hb:=bk;have hlen:xs.length<=1099511627776:=by rw[nD]at h2; omega
 unfold g22
 have h:=aP (step:=fun(x:(List R5)×Int×Int×Unit)=>AG x.1 x.2.1 x.2.2.1) xs (fun i (a:Int)=>(jW jF (fun _=>1) xs k,a,((i:Nat):Int),())) (fun _ x (a:Int)=>Sum.inl (a+((1:Nat):Int)))
  (fun a=> .inl (jW jF (fun _=>1) xs k,a,(xs.length:Int),())) (fun i a=>a=k+((cL (fun _=>1) (xs.take i):Nat):Int)) (a0:=k) (by simp[cL]) (fun i x a hx ha=>by
    have aV:=ah hx;have hs:=oE (fun _=>1) xs i;have hy:=my jF (fun _=>1) xs k i x hx;rw[er _ hx]at hs;rw[<- ha]at hy;have a1:ak .i64 a 1=a+1:=bd (by omega) (by omega);show AG (jW jF (fun _=>1) xs k) a (i:Int)=_;unfold AG;rw[aL hy,aD hy,aM _ hy,aU (by omega),a1];simp only[jF,bX,oN,oT,oF];try rfl) (fun i x a a' hx ha hf=>by
    simp only[amu]at hf;rw[qZ _ hx];omega) (fun a ha=>by
    show AG (jW jF (fun _=>1) xs k) a (xs.length:Int)=_;unfold AG;rw[aA (pI _ _ _ _)];try rfl)
 rw[px (fun _=>1)]at h;have h':aaD (jW jF (fun _=>1) xs k) k 0=_:=h;rw[h'];try rfl
def bA(x:jy):Nat:=x.1.length+x.2.1.length+x.2.2.1.length
def Bv(x:jy):Prop:=x.1.length<=bQ/\x.2.1.length<=bQ/\x.2.2.1.length<=bQ
def PQ(x:jy):Prop:=(∀ y∈x.2.2.1,pT .u8 y.1)
theorem adi(x:jy)(left:Int)(h0:0<=left)(h1:left<=1048576)(hb:Bv x):Wv x left=zR (KK left (bA x)):=by
 have hw:bA x=x.1.length+x.2.1.length+x.2.2.1.length:=rfl;unfold Wv
 try dsimp only
 by_cases q0:((x.1.length:Nat):Int)<=left;rotate_left
 . rw[fW (s:=x.1) (left:=left) (by omega) (by omega) hb.1]; rw[aR (by omega),bL (by omega)];try rfl
 rw[fW (s:=x.1) (left:=left) (by omega) (by omega) hb.1]; rw[aF (by omega)]; dsimp only[oF];by_cases q1:((x.2.1.length:Nat):Int)<=(left-((x.1.length:Nat):Int));rotate_left
 . rw[fW (s:=x.2.1) (left:=(left-((x.1.length:Nat):Int))) (by omega) (by omega) hb.2.1]; rw[aR (by omega),bL (by omega)];try rfl
 rw[fW (s:=x.2.1) (left:=(left-((x.1.length:Nat):Int))) (by omega) (by omega) hb.2.1]; rw[aF (by omega)]; dsimp only[oF];by_cases q2:((x.2.2.1.length:Nat):Int)<=((left-((x.1.length:Nat):Int))-((x.2.1.length:Nat):Int));rotate_left
 . rw[qT x.2.2.1 ((left-((x.1.length:Nat):Int))-((x.2.1.length:Nat):Int)) (by omega) (by omega) (hb.2.2),bL q2,bL (by omega)];try rfl
 rw[qT x.2.2.1 ((left-((x.1.length:Nat):Int))-((x.2.1.length:Nat):Int)) (by omega) (by omega) (hb.2.2),cV q2]; dsimp only[oB]; rw[aF (by omega)]; dsimp only[oF];rw[cV (by omega)];have e:(((left-((x.1.length:Nat):Int))-((x.2.1.length:Nat):Int))-((x.2.2.1.length:Nat):Int))=left-((bA x:Nat):Int):=by omega
 rw[e]
theorem acS(x:jy)(h:bA x<=1048576):XS x=some ((),(x,())):=by have hw:bA x=x.1.length+x.2.1.length+x.2.2.1.length:=rfl;unfold XS;rw[EM x.2.2.1 (by omega)];try rfl
theorem abD(x:jy)(h:bA x<=1099511627776):Xa x x=zR true:=by have hw:bA x=x.1.length+x.2.1.length+x.2.2.1.length:=rfl;unfold Xa;simp only[bX,gI,oN,oF,oB,beq_self_eq_true,yt x.2.2.1 (by omega)]
def cO(x:jy):Nat:=1+1+cL (fun _=>1) x.2.2.1
noncomputable def jq(x:jy)(k:Int):jy:=(mt k,mt (k+1),jW jF (fun _=>1) x.2.2.1 ((k+1)+1),())
theorem M7(x:jy):cO x<=100 * (bA x+1):=by
 have hw:bA x=x.1.length+x.2.1.length+x.2.2.1.length:=rfl;have hc:cO x=1+1+cL (fun _=>1) x.2.2.1:=rfl;have h2:=nD x.2.2.1
 try dsimp only at *
 omega
theorem Er(xs:List kF)(hb:xs.length<=bQ/\∀ y∈xs,zf y)(a:Int)(h0:0<=a)(h1:a<=1048576):Rz xs a 0=some (if ((cL aZ xs:Nat):Int)<=a then .inl (xs,a-(cL aZ xs:Nat),(xs.length:Int),())else .inr (-1,())):=by
 have h:=aP (step:=fun(x:(List kF)×Int×Int×Unit)=>tr x.1 x.2.1 x.2.2.1) xs (fun i (a:Int)=>(xs,a,((i:Nat):Int),())) (fun _ x (a:Int)=>bif decide ((aZ x:Int)<=a)then Sum.inl (a-aZ x)else .inr (.inr (-1,())))
  (fun a=> .inl (xs,a,(xs.length:Int),())) (fun _ a=>0<=a/\a<=1048576) (a0:=a) ⟨h0,h1⟩ (fun i x a hx ha=>by
    have Fb:=amk hx;have aV:=ah hx;show tr xs a (i:Int)=_;unfold tr;rw[aL hx,aD hx,aM _ hx,abV x a ha.1 ha.2 (hb.2 x Fb),aU (by omega)];dsimp only[oT,oB];by_cases q:((aZ x:Nat):Int)<=a
    . rw[cV q,aF (by omega),amg q];try rfl
    . rw[bL q,amB q];try rfl) (fun i x a a' hx ha hf=>by
    by_cases q:((aZ x:Nat):Int)<=a
    . rw[amg q]at hf;simp only[oT,amu]at hf;omega
    . rw[amB q]at hf;simp at hf) (fun a ha=>by
    show tr xs a (xs.length:Int)=_;unfold tr;rw[aA rfl];try rfl)
 rw[BH _ _ _ _ _ _ h0]at h;refine ao5 h ?_;split <;> rfl
theorem Lb(xs:List kF)(left:Int)(h0:0<=left)(h1:left<=1048576)(hb:xs.length<=bQ/\∀ y∈xs,zf y):Vo xs left=zR (KK left (wL aZ xs)):=by
 have hw:wL aZ xs=xs.length+cL aZ xs:=rfl;unfold Vo;dsimp only;rw[fW (s:=xs) (left:=left) (by omega) (by omega) hb.1];by_cases q:((xs.length:Nat):Int)<=left
 . rw[aF (by omega)];dsimp only[oF];rw[Er xs hb _ (by omega) (by omega)];by_cases q2:((cL aZ xs:Nat):Int)<=left-(xs.length:Int)
   . rw[if_pos q2,cV (by omega)];dsimp only[oB,oL];have e:left-(xs.length:Int)-(cL aZ xs:Nat)=left-((wL aZ xs:Nat):Int):=by omega
     rw[e]
   . rw[if_neg q2,bL (by omega)];try rfl
 . rw[aR (by omega),bL (by omega)];try rfl
theorem Xd(xs:List kF)(h:wL aZ xs<=1048576):VV xs=zR xs:=by
 have hb:=bk;have hw:wL aZ xs=xs.length+cL aZ xs:=rfl;unfold VV;dsimp only;rw[si (by decide) (by omega),mC]
 have h:=aP (step:=fun(x:(List kF)×(List bz)×Int×Unit)=>sv x.1 x.2.1 x.2.2.1) xs (fun i (a:List kF)=>(xs,a++List.replicate (xs.length-i) d192,((i:Nat):Int),())) (fun _ x (a:List kF)=>Sum.inl (a++[x]))
  (fun a=> .inl (xs,a,(xs.length:Int),())) (fun i a=>a.length=i) (a0:=[]) rfl (fun i x a hx ha=>by
    have aV:=ah hx;have Fs:=gj aZ hx;show sv xs (a++List.replicate (xs.length-i) d192) (i:Int)=_;unfold sv;obtain⟨q,hq⟩:∃ q,xs.length-i=q+1:=⟨xs.length-i-1,by omega⟩;have v7:xs.length-(i+1)=q:=by omega
    rw[hq,an2,aL hx,aD hx,aM _ hx,adn x (by omega)];dsimp only[oT,oB];simp only[fc ha,mr _ ha,eu ha,aU (show i<=bQ by omega),v7,oT,amD,aoa]) (fun i x a a' hx ha hf=>by
    simp only[amu]at hf;rw[<- hf,amf,ha];try rfl) (fun a ha=>by
    show sv xs (a++List.replicate (xs.length-xs.length) d192) (xs.length:Int)=_;unfold sv;rw[aA rfl,an4,an3,amV];try rfl)
 rw[mw]at h;have h':QH xs (List.replicate xs.length d192) 0=_:=h;rw[h'];try rfl
theorem Vq(xs:List bz)(h:wL aZ xs<=1099511627776):VA xs xs=zR true:=by
 have hb:=bk;have hw:wL aZ xs=xs.length+cL aZ xs:=rfl;unfold VA;rw[bX];have h:=aS (step:=fun(x:(List bz)×(List bz)×Int×Unit)=>sC x.1 x.2.1 x.2.2.1) xs (fun i (_:Unit)=>(xs,xs,((i:Nat):Int),())) (fun _ x _=>Sum.inl ()) (fun _=> .inl (xs,xs,(xs.length:Int),())) (a0:=()) (fun i x a hx=>by
  have aV:=ah hx;have Fs:=gj aZ hx;show sC xs xs (i:Int)=_;unfold sC;rw[aL hx,aD hx,aM _ hx,abp x (by omega),aU (by omega)];try rfl) (fun a=>by
  show sC xs xs (xs.length:Int)=_;unfold sC;rw[aA rfl];try rfl)
 rw[bS (fun _ a=>a)]at h;have h':Sg xs xs 0=_:=h;rw[h'];try rfl
theorem N3(xs:List bz)(k:Int)(h1:1<=k)(h2:k+((cL bu xs:Nat):Int)<=1099511627776)(h3:wL aZ xs<=1099511627776):Xg xs k=some (((jW jr bu xs k,()),()),((k+((cL bu xs:Nat):Int),()),())):=by
 have hb:=bk;have Ph:wL aZ xs=xs.length+cL aZ xs:=rfl;unfold Xg
 have h:=aP (step:=fun(x:(List bz)×Int×Int×Unit)=>su x.1 x.2.1 x.2.2.1) xs (fun i (a:List bz×Int)=>(a.1++xs.drop i,a.2,((i:Nat):Int),())) (fun _ x (a:List bz×Int)=>Sum.inl (a.1++[jr x a.2],a.2+((bu x:Nat):Int)))
  (fun a=> .inl (a.1,a.2,(xs.length:Int),())) (fun i a=>a.1.length=i/\1<=a.2/\a.2+((cL bu (xs.drop i):Nat):Int)<=1099511627776) (a0:=([],k)) ⟨rfl,h1,h2⟩ (fun i x a hx ha=>by
    have aV:=ah hx;have Fs:=gj aZ hx;obtain⟨hd,Ck,uw⟩:=ha;rw[er _ hx]at uw;have hc:bu x=1+1+1:=rfl;have hw:aZ x=x.1.length:=rfl;have a0:ak .i64 a.2 1=a.2+1:=bd (by omega) (by omega);have a1:ak .i64 (a.2+1) 1=(a.2+1)+1:=bd (by omega) (by omega);have a2:ak .i64 ((a.2+1)+1) 1=((a.2+1)+1)+1:=bd (by omega) (by omega);show su (a.1++xs.drop i) a.2 (i:Int)=_;unfold su;have e:(((a.2+1)+1)+1)=a.2+((bu x:Nat):Int):=by omega
    simp only[iX hx,oW hd,fc hd,eu hd,mr _ hd,aU (show i<=bQ by omega),oT,oB,a0,text (k:=a.2) (by omega) (by omega),a1,a2];rw[e,amD];try rfl) (fun i x a a' hx ha hf=>by
    obtain⟨hd,Ck,uw⟩:=ha;rw[er _ hx]at uw;simp only[amu]at hf;subst hf;refine⟨by rw[amf,hd];try rfl,?_,?_⟩
    . show 1<=a.2+((bu x:Nat):Int); omega
    . show a.2+((bu x:Nat):Int)+_<=_; omega) (fun a ha=>by
    show su (a.1++xs.drop xs.length) a.2 (xs.length:Int)=_;unfold su;rw[anY,amV,aA ha.1];try rfl)
 rw[qk jr bu]at h;have h':Qe xs k 0=_:=h;rw[h'];try rfl
theorem OD(xs:List bz)(k:Int)(h1:1<=k)(h2:k+((cL bu xs:Nat):Int)<=1099511627776)(h3:wL aZ xs<=1099511627776):WB (jW jr bu xs k) k=zR (k+((cL bu xs:Nat):Int)):=by
 have hb:=bk;have Ph:wL aZ xs=xs.length+cL aZ xs:=rfl;unfold WB
 have h:=aP (step:=fun(x:(List bz)×Int×Int×Unit)=>tW x.1 x.2.1 x.2.2.1) xs (fun i (a:Int)=>(jW jr bu xs k,a,((i:Nat):Int),())) (fun _ x (a:Int)=>Sum.inl (a+((bu x:Nat):Int)))
  (fun a=> .inl (jW jr bu xs k,a,(xs.length:Int),())) (fun i a=>a=k+((cL bu (xs.take i):Nat):Int)) (a0:=k) (by simp[cL]) (fun i x a hx ha=>by
    have aV:=ah hx;have Fs:=gj aZ hx;have hs:=oE bu xs i;have hy:=my jr bu xs k i x hx;rw[er _ hx]at hs;rw[<- ha]at hy;have hc:bu x=1+1+1:=rfl;have hw:aZ x=x.1.length:=rfl;have a0:ak .i64 a 1=a+1:=bd (by omega) (by omega);have a1:ak .i64 (a+1) 1=(a+1)+1:=bd (by omega) (by omega);have a2:ak .i64 ((a+1)+1) 1=((a+1)+1)+1:=bd (by omega) (by omega);show tW (jW jr bu xs k) a (i:Int)=_;unfold tW;have e:(((a+1)+1)+1)=a+((bu x:Nat):Int):=by omega
    simp only[aL hy,aD hy,aM _ hy,aU (show i<=bQ by omega),jr,oT,oF,oB,gI,bX,oN,a0,text (k:=a) (by omega) (by omega),a1,a2];rw[e]) (fun i x a a' hx ha hf=>by
    simp only[amu]at hf;rw[qZ _ hx];omega) (fun a ha=>by
    show tW (jW jr bu xs k) a (xs.length:Int)=_;unfold tW;rw[aA (pI _ _ _ _)];try rfl)
 rw[px bu]at h;have h':SO (jW jr bu xs k) k 0=_:=h;rw[h'];try rfl
theorem EO(xs:List jy)(hb:xs.length<=bQ/\∀ y∈xs,Bv y)(a:Int)(h0:0<=a)(h1:a<=1048576):Q5 xs a 0=some (if ((cL bA xs:Nat):Int)<=a then .inl (xs,a-(cL bA xs:Nat),(xs.length:Int),())else .inr (-1,())):=by
 have h:=aP (step:=fun(x:(List jy)×Int×Int×Unit)=>r8 x.1 x.2.1 x.2.2.1) xs (fun i (a:Int)=>(xs,a,((i:Nat):Int),())) (fun _ x (a:Int)=>bif decide ((bA x:Int)<=a)then Sum.inl (a-bA x)else .inr (.inr (-1,())))
  (fun a=> .inl (xs,a,(xs.length:Int),())) (fun _ a=>0<=a/\a<=1048576) (a0:=a) ⟨h0,h1⟩ (fun i x a hx ha=>by
    have Fb:=amk hx;have aV:=ah hx;show r8 xs a (i:Int)=_;unfold r8;rw[aL hx,aD hx,aM _ hx,adi x a ha.1 ha.2 (hb.2 x Fb),aU (by omega)];dsimp only[oT,oB];by_cases q:((bA x:Nat):Int)<=a
    . rw[cV q,aF (by omega),amg q];try rfl
    . rw[bL q,amB q];try rfl) (fun i x a a' hx ha hf=>by
    by_cases q:((bA x:Nat):Int)<=a
    . rw[amg q]at hf;simp only[oT,amu]at hf;omega
    . rw[amB q]at hf;simp at hf) (fun a ha=>by
    show r8 xs a (xs.length:Int)=_;unfold r8;rw[aA rfl];try rfl)
 rw[BH _ _ _ _ _ _ h0]at h;refine ao5 h ?_;split <;> rfl
theorem Kp(xs:List jy)(left:Int)(h0:0<=left)(h1:left<=1048576)(hb:xs.length<=bQ/\∀ y∈xs,Bv y):VN xs left=zR (KK left (wL bA xs)):=by
 have hw:wL bA xs=xs.length+cL bA xs:=rfl;unfold VN;dsimp only;rw[fW (s:=xs) (left:=left) (by omega) (by omega) hb.1];by_cases q:((xs.length:Nat):Int)<=left
 . rw[aF (by omega)];dsimp only[oF];rw[EO xs hb _ (by omega) (by omega)];by_cases q2:((cL bA xs:Nat):Int)<=left-(xs.length:Int)
   . rw[if_pos q2,cV (by omega)];dsimp only[oB,oL];have e:left-(xs.length:Int)-(cL bA xs:Nat)=left-((wL bA xs:Nat):Int):=by omega
     rw[e]
   . rw[if_neg q2,bL (by omega)];try rfl
 . rw[aR (by omega),bL (by omega)];try rfl
theorem Vt(xs:List jy)(h:wL bA xs<=1048576):Vs xs=zR xs:=by
 have hb:=bk;have hw:wL bA xs=xs.length+cL bA xs:=rfl;unfold Vs;dsimp only;rw[si (by decide) (by omega),mC]
 have h:=aP (step:=fun(x:(List jy)×(List ch)×Int×Unit)=>uo x.1 x.2.1 x.2.2.1) xs (fun i (a:List jy)=>(xs,a++List.replicate (xs.length-i) d100,((i:Nat):Int),())) (fun _ x (a:List jy)=>Sum.inl (a++[x]))
  (fun a=> .inl (xs,a,(xs.length:Int),())) (fun i a=>a.length=i) (a0:=[]) rfl (fun i x a hx ha=>by
    have aV:=ah hx;have Fs:=gj bA hx;show uo xs (a++List.replicate (xs.length-i) d100) (i:Int)=_;unfold uo;obtain⟨q,hq⟩:∃ q,xs.length-i=q+1:=⟨xs.length-i-1,by omega⟩;have v7:xs.length-(i+1)=q:=by omega
    rw[hq,an2,aL hx,aD hx,aM _ hx,acS x (by omega)];dsimp only[oT,oB];simp only[fc ha,mr _ ha,eu ha,aU (show i<=bQ by omega),v7,oT,amD,aoa]) (fun i x a a' hx ha hf=>by
    simp only[amu]at hf;rw[<- hf,amf,ha];try rfl) (fun a ha=>by
    show uo xs (a++List.replicate (xs.length-xs.length) d100) (xs.length:Int)=_;unfold uo;rw[aA rfl,an4,an3,amV];try rfl)
 rw[mw]at h;have h':Tc xs (List.replicate xs.length d100) 0=_:=h;rw[h'];try rfl
theorem V2(xs:List ch)(h:wL bA xs<=1099511627776):Vu xs xs=zR true:=by
 have hb:=bk;have hw:wL bA xs=xs.length+cL bA xs:=rfl;unfold Vu;rw[bX];have h:=aS (step:=fun(x:(List ch)×(List ch)×Int×Unit)=>sR x.1 x.2.1 x.2.2.1) xs (fun i (_:Unit)=>(xs,xs,((i:Nat):Int),())) (fun _ x _=>Sum.inl ()) (fun _=> .inl (xs,xs,(xs.length:Int),())) (a0:=()) (fun i x a hx=>by
  have aV:=ah hx;have Fs:=gj bA hx;show sR xs xs (i:Int)=_;unfold sR;rw[aL hx,aD hx,aM _ hx,abD x (by omega),aU (by omega)];try rfl) (fun a=>by
  show sR xs xs (xs.length:Int)=_;unfold sR;rw[aA rfl];try rfl)
 rw[bS (fun _ a=>a)]at h;have h':Pz xs xs 0=_:=h;rw[h'];try rfl
theorem Ni(xs:List ch)(k:Int)(h1:1<=k)(h2:k+((cL cO xs:Nat):Int)<=1099511627776)(h3:wL bA xs<=1099511627776):WX xs k=some (((jW jq cO xs k,()),()),((k+((cL cO xs:Nat):Int),()),())):=by
 have hb:=bk;have Ph:wL bA xs=xs.length+cL bA xs:=rfl;unfold WX
 have h:=aP (step:=fun(x:(List ch)×Int×Int×Unit)=>sF x.1 x.2.1 x.2.2.1) xs (fun i (a:List ch×Int)=>(a.1++xs.drop i,a.2,((i:Nat):Int),())) (fun _ x (a:List ch×Int)=>Sum.inl (a.1++[jq x a.2],a.2+((cO x:Nat):Int)))
  (fun a=> .inl (a.1,a.2,(xs.length:Int),())) (fun i a=>a.1.length=i/\1<=a.2/\a.2+((cL cO (xs.drop i):Nat):Int)<=1099511627776) (a0:=([],k)) ⟨rfl,h1,h2⟩ (fun i x a hx ha=>by
    have aV:=ah hx;have Fs:=gj bA hx;obtain⟨hd,Ck,uw⟩:=ha;rw[er _ hx]at uw;have hc:cO x=1+1+cL (fun _=>1) x.2.2.1:=rfl;have hw:bA x=x.1.length+x.2.1.length+x.2.2.1.length:=rfl;have a0:ak .i64 a.2 1=a.2+1:=bd (by omega) (by omega);have a1:ak .i64 (a.2+1) 1=(a.2+1)+1:=bd (by omega) (by omega);have m2:=rk x.2.2.1 ((a.2+1)+1) (by omega) (by omega);show sF (a.1++xs.drop i) a.2 (i:Int)=_;unfold sF;have e:(((a.2+1)+1)+((cL (fun _=>1) x.2.2.1:Nat):Int))=a.2+((cO x:Nat):Int):=by omega
    simp only[iX hx,oW hd,fc hd,eu hd,mr _ hd,aU (show i<=bQ by omega),oT,oB,a0,text (k:=a.2) (by omega) (by omega),a1,text (k:=(a.2+1)) (by omega) (by omega),m2];rw[e,amD];try rfl) (fun i x a a' hx ha hf=>by
    obtain⟨hd,Ck,uw⟩:=ha;rw[er _ hx]at uw;simp only[amu]at hf;subst hf;refine⟨by rw[amf,hd];try rfl,?_,?_⟩
    . show 1<=a.2+((cO x:Nat):Int); omega
    . show a.2+((cO x:Nat):Int)+_<=_; omega) (fun a ha=>by
    show sF (a.1++xs.drop xs.length) a.2 (xs.length:Int)=_;unfold sF;rw[anY,amV,aA ha.1];try rfl)
 rw[qk jq cO]at h;have h':Rh xs k 0=_:=h;rw[h'];try rfl
theorem N6(xs:List ch)(k:Int)(h1:1<=k)(h2:k+((cL cO xs:Nat):Int)<=1099511627776)(h3:wL bA xs<=1099511627776):VY (jW jq cO xs k) k=zR (k+((cL cO xs:Nat):Int)):=by
 have hb:=bk;have Ph:wL bA xs=xs.length+cL bA xs:=rfl;unfold VY
 have h:=aP (step:=fun(x:(List ch)×Int×Int×Unit)=>rZ x.1 x.2.1 x.2.2.1) xs (fun i (a:Int)=>(jW jq cO xs k,a,((i:Nat):Int),())) (fun _ x (a:Int)=>Sum.inl (a+((cO x:Nat):Int)))
  (fun a=> .inl (jW jq cO xs k,a,(xs.length:Int),())) (fun i a=>a=k+((cL cO (xs.take i):Nat):Int)) (a0:=k) (by simp[cL]) (fun i x a hx ha=>by
    have aV:=ah hx;have Fs:=gj bA hx;have hs:=oE cO xs i;have hy:=my jq cO xs k i x hx;rw[er _ hx]at hs;rw[<- ha]at hy;have hc:cO x=1+1+cL (fun _=>1) x.2.2.1:=rfl;have hw:bA x=x.1.length+x.2.1.length+x.2.2.1.length:=rfl;have a0:ak .i64 a 1=a+1:=bd (by omega) (by omega);have a1:ak .i64 (a+1) 1=(a+1)+1:=bd (by omega) (by omega);have m2:=Cm x.2.2.1 ((a+1)+1) (by omega) (by omega);have n2:aE (((a+1)+1)+((cL (fun _=>1) x.2.2.1:Nat):Int)) 0=false:=aF (by omega);show rZ (jW jq cO xs k) a (i:Int)=_;unfold rZ;have e:(((a+1)+1)+((cL (fun _=>1) x.2.2.1:Nat):Int))=a+((cO x:Nat):Int):=by omega
    simp only[aL hy,aD hy,aM _ hy,aU (show i<=bQ by omega),jq,oT,oF,oB,gI,bX,oN,a0,text (k:=a) (by omega) (by omega),a1,text (k:=(a+1)) (by omega) (by omega),m2,n2];rw[e]) (fun i x a a' hx ha hf=>by
    simp only[amu]at hf;rw[qZ _ hx];omega) (fun a ha=>by
    show rZ (jW jq cO xs k) a (xs.length:Int)=_;unfold rZ;rw[aA (pI _ _ _ _)];try rfl)
 rw[px cO]at h;have h':QG (jW jq cO xs k) k 0=_:=h;rw[h'];try rfl
def aI(x:gH):Nat:=x.1.length+wL aZ x.2.2.2.2.2.1+dF (x.2.2.2.2.2.2.1,x.2.2.2.2.2.2.2.1,x.2.2.2.2.2.2.2.2.1,x.2.2.2.2.2.2.2.2.2.1,())+wL bA x.2.2.2.2.2.2.2.2.2.2.1
def yU(x:gH):Prop:=x.1.length<=bQ/\(x.2.2.2.2.2.1.length<=bQ/\∀ y∈x.2.2.2.2.2.1,zf y)/\Th (x.2.2.2.2.2.2.1,x.2.2.2.2.2.2.2.1,x.2.2.2.2.2.2.2.2.1,x.2.2.2.2.2.2.2.2.2.1,())/\(x.2.2.2.2.2.2.2.2.2.2.1.length<=bQ/\∀ y∈x.2.2.2.2.2.2.2.2.2.2.1,Bv y)
def R7(x:gH):Prop:=(∀ y∈x.2.2.2.2.2.2.2.2.2.2.1,PQ y)
theorem adH(x:gH)(left:Int)(h0:0<=left)(h1:left<=1048576)(hb:yU x):g73 x left=zR (KK left (aI x)):=by
 have hw:aI x=x.1.length+wL aZ x.2.2.2.2.2.1+dF (x.2.2.2.2.2.2.1,x.2.2.2.2.2.2.2.1,x.2.2.2.2.2.2.2.2.1,x.2.2.2.2.2.2.2.2.2.1,())+wL bA x.2.2.2.2.2.2.2.2.2.2.1:=rfl;unfold g73
 try dsimp only
 by_cases q0:((x.1.length:Nat):Int)<=left;rotate_left
 . rw[fW (s:=x.1) (left:=left) (by omega) (by omega) hb.1]; rw[aR (by omega),bL (by omega)];try rfl
 rw[fW (s:=x.1) (left:=left) (by omega) (by omega) hb.1]; rw[aF (by omega)]; dsimp only[oF];by_cases q1:((wL aZ x.2.2.2.2.2.1:Nat):Int)<=(left-((x.1.length:Nat):Int));rotate_left
 . rw[Lb x.2.2.2.2.2.1 (left-((x.1.length:Nat):Int)) (by omega) (by omega) (hb.2.1),bL q1,bL (by omega)];try rfl
 rw[Lb x.2.2.2.2.2.1 (left-((x.1.length:Nat):Int)) (by omega) (by omega) (hb.2.1),cV q1]; dsimp only[oB]; rw[aF (by omega)]; dsimp only[oF];by_cases q2:((dF (x.2.2.2.2.2.2.1,x.2.2.2.2.2.2.2.1,x.2.2.2.2.2.2.2.2.1,x.2.2.2.2.2.2.2.2.2.1,()):Nat):Int)<=((left-((x.1.length:Nat):Int))-((wL aZ x.2.2.2.2.2.1:Nat):Int));rotate_left
 . rw[Rb (x.2.2.2.2.2.2.1,x.2.2.2.2.2.2.2.1,x.2.2.2.2.2.2.2.2.1,x.2.2.2.2.2.2.2.2.2.1,()) ((left-((x.1.length:Nat):Int))-((wL aZ x.2.2.2.2.2.1:Nat):Int)) (by omega) (by omega) (hb.2.2.1),bL q2,bL (by omega)];try rfl
 rw[Rb (x.2.2.2.2.2.2.1,x.2.2.2.2.2.2.2.1,x.2.2.2.2.2.2.2.2.1,x.2.2.2.2.2.2.2.2.2.1,()) ((left-((x.1.length:Nat):Int))-((wL aZ x.2.2.2.2.2.1:Nat):Int)) (by omega) (by omega) (hb.2.2.1),cV q2]; dsimp only[oB]; rw[aF (by omega)]; dsimp only[oF];by_cases q3:((wL bA x.2.2.2.2.2.2.2.2.2.2.1:Nat):Int)<=(((left-((x.1.length:Nat):Int))-((wL aZ x.2.2.2.2.2.1:Nat):Int))-((dF (x.2.2.2.2.2.2.1,x.2.2.2.2.2.2.2.1,x.2.2.2.2.2.2.2.2.1,x.2.2.2.2.2.2.2.2.2.1,()):Nat):Int));rotate_left
 . rw[Kp x.2.2.2.2.2.2.2.2.2.2.1 (((left-((x.1.length:Nat):Int))-((wL aZ x.2.2.2.2.2.1:Nat):Int))-((dF (x.2.2.2.2.2.2.1,x.2.2.2.2.2.2.2.1,x.2.2.2.2.2.2.2.2.1,x.2.2.2.2.2.2.2.2.2.1,()):Nat):Int)) (by omega) (by omega) (hb.2.2.2),bL q3,bL (by omega)];try rfl
 rw[Kp x.2.2.2.2.2.2.2.2.2.2.1 (((left-((x.1.length:Nat):Int))-((wL aZ x.2.2.2.2.2.1:Nat):Int))-((dF (x.2.2.2.2.2.2.1,x.2.2.2.2.2.2.2.1,x.2.2.2.2.2.2.2.2.1,x.2.2.2.2.2.2.2.2.2.1,()):Nat):Int)) (by omega) (by omega) (hb.2.2.2),cV q3]; dsimp only[oB]; rw[aF (by omega)]; dsimp only[oF];rw[cV (by omega)];have e:((((left-((x.1.length:Nat):Int))-((wL aZ x.2.2.2.2.2.1:Nat):Int))-((dF (x.2.2.2.2.2.2.1,x.2.2.2.2.2.2.2.1,x.2.2.2.2.2.2.2.2.1,x.2.2.2.2.2.2.2.2.2.1,()):Nat):Int))-((wL bA x.2.2.2.2.2.2.2.2.2.2.1:Nat):Int))=left-((aI x:Nat):Int):=by omega
 rw[e]
theorem adJ(x:gH)(h:aI x<=1048576):g75 x=some ((),(x,())):=by have hw:aI x=x.1.length+wL aZ x.2.2.2.2.2.1+dF (x.2.2.2.2.2.2.1,x.2.2.2.2.2.2.2.1,x.2.2.2.2.2.2.2.2.1,x.2.2.2.2.2.2.2.2.2.1,())+wL bA x.2.2.2.2.2.2.2.2.2.2.1:=rfl;unfold g75;rw[Xd x.2.2.2.2.2.1 (by omega)];rw[toRing (x.2.2.2.2.2.2.1,x.2.2.2.2.2.2.2.1,x.2.2.2.2.2.2.2.2.1,x.2.2.2.2.2.2.2.2.2.1,()) (by omega)];rw[Vt x.2.2.2.2.2.2.2.2.2.2.1 (by omega)];try rfl
theorem acX(x:gH)(h:aI x<=1099511627776):g76 x x=zR true:=by have hw:aI x=x.1.length+wL aZ x.2.2.2.2.2.1+dF (x.2.2.2.2.2.2.1,x.2.2.2.2.2.2.2.1,x.2.2.2.2.2.2.2.2.1,x.2.2.2.2.2.2.2.2.2.1,())+wL bA x.2.2.2.2.2.2.2.2.2.2.1:=rfl;unfold g76;simp only[bX,gI,oN,oF,oB,beq_self_eq_true,Vq x.2.2.2.2.2.1 (by omega),abR (x.2.2.2.2.2.2.1,x.2.2.2.2.2.2.2.1,x.2.2.2.2.2.2.2.2.1,x.2.2.2.2.2.2.2.2.2.1,()) (by omega),V2 x.2.2.2.2.2.2.2.2.2.2.1 (by omega)]
def cN(x:gH):Nat:=1+1+1+1+1+cL bu x.2.2.2.2.2.1+1+1+cL (fun _=>1) x.2.2.2.2.2.2.2.2.1+cL (fun _=>1) x.2.2.2.2.2.2.2.2.2.1+cL cO x.2.2.2.2.2.2.2.2.2.2.1
noncomputable def ju(x:gH)(k:Int):gH:=(mt k,(k+1),((k+1)+1),(((k+1)+1)+1),((((k+1)+1)+1)+1),jW jr bu x.2.2.2.2.2.1 (((((k+1)+1)+1)+1)+1),((((((k+1)+1)+1)+1)+1)+((cL bu x.2.2.2.2.2.1:Nat):Int)),(((((((k+1)+1)+1)+1)+1)+((cL bu x.2.2.2.2.2.1:Nat):Int))+1),jW mkInt (fun _=>1) x.2.2.2.2.2.2.2.2.1 ((((((((k+1)+1)+1)+1)+1)+((cL bu x.2.2.2.2.2.1:Nat):Int))+1)+1),jW mkInt (fun _=>1) x.2.2.2.2.2.2.2.2.2.1 (((((((((k+1)+1)+1)+1)+1)+((cL bu x.2.2.2.2.2.1:Nat):Int))+1)+1)+((cL (fun _=>1) x.2.2.2.2.2.2.2.2.1:Nat):Int)),jW jq cO x.2.2.2.2.2.2.2.2.2.2.1 ((((((((((k+1)+1)+1)+1)+1)+((cL bu x.2.2.2.2.2.1:Nat):Int))+1)+1)+((cL (fun _=>1) x.2.2.2.2.2.2.2.2.1:Nat):Int))+((cL (fun _=>1) x.2.2.2.2.2.2.2.2.2.1:Nat):Int)),())
theorem NQ(x:gH):cN x<=100 * (aI x+1):=by
 have hw:aI x=x.1.length+wL aZ x.2.2.2.2.2.1+dF (x.2.2.2.2.2.2.1,x.2.2.2.2.2.2.2.1,x.2.2.2.2.2.2.2.2.1,x.2.2.2.2.2.2.2.2.2.1,())+wL bA x.2.2.2.2.2.2.2.2.2.2.1:=rfl;have hc:cN x=1+1+1+1+1+cL bu x.2.2.2.2.2.1+1+1+cL (fun _=>1) x.2.2.2.2.2.2.2.2.1+cL (fun _=>1) x.2.2.2.2.2.2.2.2.2.1+cL cO x.2.2.2.2.2.2.2.2.2.2.1:=rfl;have hw6:dF (x.2.2.2.2.2.2.1,x.2.2.2.2.2.2.2.1,x.2.2.2.2.2.2.2.2.1,x.2.2.2.2.2.2.2.2.2.1,())=(x.2.2.2.2.2.2.1,x.2.2.2.2.2.2.2.1,x.2.2.2.2.2.2.2.2.1,x.2.2.2.2.2.2.2.2.2.1,()).2.2.1.length+(x.2.2.2.2.2.2.1,x.2.2.2.2.2.2.2.1,x.2.2.2.2.2.2.2.2.1,x.2.2.2.2.2.2.2.2.2.1,()).2.2.2.1.length:=rfl;have h5:=C8 MJ x.2.2.2.2.2.1;have h8:=nD x.2.2.2.2.2.2.2.2.1;have h9:=nD x.2.2.2.2.2.2.2.2.2.1;have E6:=C8 M7 x.2.2.2.2.2.2.2.2.2.2.1
 try dsimp only at *
 omega
theorem EG(xs:List jM)(hb:xs.length<=bQ/\∀ y∈xs,yU y)(a:Int)(h0:0<=a)(h1:a<=1048576):aau xs a 0=some (if ((cL aI xs:Nat):Int)<=a then .inl (xs,a-(cL aI xs:Nat),(xs.length:Int),())else .inr (-1,())):=by
 have h:=aP (step:=fun(x:(List jM)×Int×Int×Unit)=>Aw x.1 x.2.1 x.2.2.1) xs (fun i (a:Int)=>(xs,a,((i:Nat):Int),())) (fun _ x (a:Int)=>bif decide ((aI x:Int)<=a)then Sum.inl (a-aI x)else .inr (.inr (-1,())))
  (fun a=> .inl (xs,a,(xs.length:Int),())) (fun _ a=>0<=a/\a<=1048576) (a0:=a) ⟨h0,h1⟩ (fun i x a hx ha=>by
    have Fb:=amk hx;have aV:=ah hx;show Aw xs a (i:Int)=_;unfold Aw;rw[aL hx,aD hx,aM _ hx,adH x a ha.1 ha.2 (hb.2 x Fb),aU (by omega)];dsimp only[oT,oB];by_cases q:((aI x:Nat):Int)<=a
    . rw[cV q,aF (by omega),amg q];try rfl
    . rw[bL q,amB q];try rfl) (fun i x a a' hx ha hf=>by
    by_cases q:((aI x:Nat):Int)<=a
    . rw[amg q]at hf;simp only[oT,amu]at hf;omega
    . rw[amB q]at hf;simp at hf) (fun a ha=>by
    show Aw xs a (xs.length:Int)=_;unfold Aw;rw[aA rfl];try rfl)
 rw[BH _ _ _ _ _ _ h0]at h;refine ao5 h ?_;split <;> rfl
theorem Lm(xs:List jM)(left:Int)(h0:0<=left)(h1:left<=1048576)(hb:xs.length<=bQ/\∀ y∈xs,yU y):g34 xs left=zR (KK left (wL aI xs)):=by
 have hw:wL aI xs=xs.length+cL aI xs:=rfl;unfold g34;dsimp only;rw[fW (s:=xs) (left:=left) (by omega) (by omega) hb.1];by_cases q:((xs.length:Nat):Int)<=left
 . rw[aF (by omega)];dsimp only[oF];rw[EG xs hb _ (by omega) (by omega)];by_cases q2:((cL aI xs:Nat):Int)<=left-(xs.length:Int)
   . rw[if_pos q2,cV (by omega)];dsimp only[oB,oL];have e:left-(xs.length:Int)-(cL aI xs:Nat)=left-((wL aI xs:Nat):Int):=by omega
     rw[e]
   . rw[if_neg q2,bL (by omega)];try rfl
 . rw[aR (by omega),bL (by omega)];try rfl
theorem WS(xs:List jM)(h:wL aI xs<=1048576):g36 xs=zR xs:=by
 have hb:=bk;have hw:wL aI xs=xs.length+cL aI xs:=rfl;unfold g36;dsimp only;rw[si (by decide) (by omega),mC]
 have h:=aP (step:=fun(x:(List jM)×(List gH)×Int×Unit)=>zv x.1 x.2.1 x.2.2.1) xs (fun i (a:List jM)=>(xs,a++List.replicate (xs.length-i) d94,((i:Nat):Int),())) (fun _ x (a:List jM)=>Sum.inl (a++[x]))
  (fun a=> .inl (xs,a,(xs.length:Int),())) (fun i a=>a.length=i) (a0:=[]) rfl (fun i x a hx ha=>by
    have aV:=ah hx;have Fs:=gj aI hx;show zv xs (a++List.replicate (xs.length-i) d94) (i:Int)=_;unfold zv;obtain⟨q,hq⟩:∃ q,xs.length-i=q+1:=⟨xs.length-i-1,by omega⟩;have v7:xs.length-(i+1)=q:=by omega
    rw[hq,an2,aL hx,aD hx,aM _ hx,adJ x (by omega)];dsimp only[oT,oB];simp only[fc ha,mr _ ha,eu ha,aU (show i<=bQ by omega),v7,oT,amD,aoa]) (fun i x a a' hx ha hf=>by
    simp only[amu]at hf;rw[<- hf,amf,ha];try rfl) (fun a ha=>by
    show zv xs (a++List.replicate (xs.length-xs.length) d94) (xs.length:Int)=_;unfold zv;rw[aA rfl,an4,an3,amV];try rfl)
 rw[mw]at h;have h':Zx xs (List.replicate xs.length d94) 0=_:=h;rw[h'];try rfl
theorem VQ(xs:List gH)(h:wL aI xs<=1099511627776):g39 xs xs=zR true:=by
 have hb:=bk;have hw:wL aI xs=xs.length+cL aI xs:=rfl;unfold g39;rw[bX];have h:=aS (step:=fun(x:(List gH)×(List gH)×Int×Unit)=>AF x.1 x.2.1 x.2.2.1) xs (fun i (_:Unit)=>(xs,xs,((i:Nat):Int),())) (fun _ x _=>Sum.inl ()) (fun _=> .inl (xs,xs,(xs.length:Int),())) (a0:=()) (fun i x a hx=>by
  have aV:=ah hx;have Fs:=gj aI hx;show AF xs xs (i:Int)=_;unfold AF;rw[aL hx,aD hx,aM _ hx,acX x (by omega),aU (by omega)];try rfl) (fun a=>by
  show AF xs xs (xs.length:Int)=_;unfold AF;rw[aA rfl];try rfl)
 rw[bS (fun _ a=>a)]at h;have h':aae xs xs 0=_:=h;rw[h'];try rfl
theorem MQ(xs:List gH)(k:Int)(h1:1<=k)(h2:k+((cL cN xs:Nat):Int)<=1099511627776)(h3:wL aI xs<=1099511627776):g69 xs k=some (((jW ju cN xs k,()),()),((k+((cL cN xs:Nat):Int),()),())):=by
 have hb:=bk;have Ph:wL aI xs=xs.length+cL aI xs:=rfl;unfold g69
 have h:=aP (step:=fun(x:(List gH)×Int×Int×Unit)=>zn x.1 x.2.1 x.2.2.1) xs (fun i (a:List gH×Int)=>(a.1++xs.drop i,a.2,((i:Nat):Int),())) (fun _ x (a:List gH×Int)=>Sum.inl (a.1++[ju x a.2],a.2+((cN x:Nat):Int)))
  (fun a=> .inl (a.1,a.2,(xs.length:Int),())) (fun i a=>a.1.length=i/\1<=a.2/\a.2+((cL cN (xs.drop i):Nat):Int)<=1099511627776) (a0:=([],k)) ⟨rfl,h1,h2⟩ (fun i x a hx ha=>by
    have aV:=ah hx;have Fs:=gj aI hx;obtain⟨hd,Ck,uw⟩:=ha;rw[er _ hx]at uw;have hc:cN x=1+1+1+1+1+cL bu x.2.2.2.2.2.1+1+1+cL (fun _=>1) x.2.2.2.2.2.2.2.2.1+cL (fun _=>1) x.2.2.2.2.2.2.2.2.2.1+cL cO x.2.2.2.2.2.2.2.2.2.2.1:=rfl;have hw:aI x=x.1.length+wL aZ x.2.2.2.2.2.1+dF (x.2.2.2.2.2.2.1,x.2.2.2.2.2.2.2.1,x.2.2.2.2.2.2.2.2.1,x.2.2.2.2.2.2.2.2.2.1,())+wL bA x.2.2.2.2.2.2.2.2.2.2.1:=rfl;have hw6:dF (x.2.2.2.2.2.2.1,x.2.2.2.2.2.2.2.1,x.2.2.2.2.2.2.2.2.1,x.2.2.2.2.2.2.2.2.2.1,())=(x.2.2.2.2.2.2.1,x.2.2.2.2.2.2.2.1,x.2.2.2.2.2.2.2.2.1,x.2.2.2.2.2.2.2.2.2.1,()).2.2.1.length+(x.2.2.2.2.2.2.1,x.2.2.2.2.2.2.2.1,x.2.2.2.2.2.2.2.2.1,x.2.2.2.2.2.2.2.2.2.1,()).2.2.2.1.length:=rfl;have a0:ak .i64 a.2 1=a.2+1:=bd (by omega) (by omega);have a1:ak .i64 (a.2+1) 1=(a.2+1)+1:=bd (by omega) (by omega);have a2:ak .i64 ((a.2+1)+1) 1=((a.2+1)+1)+1:=bd (by omega) (by omega);have a3:ak .i64 (((a.2+1)+1)+1) 1=(((a.2+1)+1)+1)+1:=bd (by omega) (by omega);have a4:ak .i64 ((((a.2+1)+1)+1)+1) 1=((((a.2+1)+1)+1)+1)+1:=bd (by omega) (by omega);have m5:=N3 x.2.2.2.2.2.1 (((((a.2+1)+1)+1)+1)+1) (by omega) (by omega) (by omega);have a6:ak .i64 ((((((a.2+1)+1)+1)+1)+1)+((cL bu x.2.2.2.2.2.1:Nat):Int)) 1=((((((a.2+1)+1)+1)+1)+1)+((cL bu x.2.2.2.2.2.1:Nat):Int))+1:=bd (by omega) (by omega);have a7:ak .i64 (((((((a.2+1)+1)+1)+1)+1)+((cL bu x.2.2.2.2.2.1:Nat):Int))+1) 1=(((((((a.2+1)+1)+1)+1)+1)+((cL bu x.2.2.2.2.2.1:Nat):Int))+1)+1:=bd (by omega) (by omega);have m8:=HK x.2.2.2.2.2.2.2.2.1 ((((((((a.2+1)+1)+1)+1)+1)+((cL bu x.2.2.2.2.2.1:Nat):Int))+1)+1) (by omega) (by omega);have m9:=HK x.2.2.2.2.2.2.2.2.2.1 (((((((((a.2+1)+1)+1)+1)+1)+((cL bu x.2.2.2.2.2.1:Nat):Int))+1)+1)+((cL (fun _=>1) x.2.2.2.2.2.2.2.2.1:Nat):Int)) (by omega) (by omega);have m10:=Ni x.2.2.2.2.2.2.2.2.2.2.1 ((((((((((a.2+1)+1)+1)+1)+1)+((cL bu x.2.2.2.2.2.1:Nat):Int))+1)+1)+((cL (fun _=>1) x.2.2.2.2.2.2.2.2.1:Nat):Int))+((cL (fun _=>1) x.2.2.2.2.2.2.2.2.2.1:Nat):Int)) (by omega) (by omega) (by omega);show zn (a.1++xs.drop i) a.2 (i:Int)=_;unfold zn;have e:(((((((((((a.2+1)+1)+1)+1)+1)+((cL bu x.2.2.2.2.2.1:Nat):Int))+1)+1)+((cL (fun _=>1) x.2.2.2.2.2.2.2.2.1:Nat):Int))+((cL (fun _=>1) x.2.2.2.2.2.2.2.2.2.1:Nat):Int))+((cL cO x.2.2.2.2.2.2.2.2.2.2.1:Nat):Int))=a.2+((cN x:Nat):Int):=by omega
    simp only[iX hx,oW hd,fc hd,eu hd,mr _ hd,aU (show i<=bQ by omega),oT,oB,a0,text (k:=a.2) (by omega) (by omega),a1,a2,a3,a4,m5,a6,a7,m8,m9,m10];rw[e,amD];try rfl) (fun i x a a' hx ha hf=>by
    obtain⟨hd,Ck,uw⟩:=ha;rw[er _ hx]at uw;simp only[amu]at hf;subst hf;refine⟨by rw[amf,hd];try rfl,?_,?_⟩
    . show 1<=a.2+((cN x:Nat):Int); omega
    . show a.2+((cN x:Nat):Int)+_<=_; omega) (fun a ha=>by
    show zn (a.1++xs.drop xs.length) a.2 (xs.length:Int)=_;unfold zn;rw[anY,amV,aA ha.1];try rfl)
 rw[qk ju cN]at h;have h':aaM xs k 0=_:=h;rw[h'];try rfl
theorem Nu(xs:List gH)(k:Int)(h1:1<=k)(h2:k+((cL cN xs:Nat):Int)<=1099511627776)(h3:wL aI xs<=1099511627776):g70 (jW ju cN xs k) k=zR (k+((cL cN xs:Nat):Int)):=by
 have hb:=bk;have Ph:wL aI xs=xs.length+cL aI xs:=rfl;unfold g70
 have h:=aP (step:=fun(x:(List gH)×Int×Int×Unit)=>zB x.1 x.2.1 x.2.2.1) xs (fun i (a:Int)=>(jW ju cN xs k,a,((i:Nat):Int),())) (fun _ x (a:Int)=>Sum.inl (a+((cN x:Nat):Int)))
  (fun a=> .inl (jW ju cN xs k,a,(xs.length:Int),())) (fun i a=>a=k+((cL cN (xs.take i):Nat):Int)) (a0:=k) (by simp[cL]) (fun i x a hx ha=>by
    have aV:=ah hx;have Fs:=gj aI hx;have hs:=oE cN xs i;have hy:=my ju cN xs k i x hx;rw[er _ hx]at hs;rw[<- ha]at hy;have hc:cN x=1+1+1+1+1+cL bu x.2.2.2.2.2.1+1+1+cL (fun _=>1) x.2.2.2.2.2.2.2.2.1+cL (fun _=>1) x.2.2.2.2.2.2.2.2.2.1+cL cO x.2.2.2.2.2.2.2.2.2.2.1:=rfl;have hw:aI x=x.1.length+wL aZ x.2.2.2.2.2.1+dF (x.2.2.2.2.2.2.1,x.2.2.2.2.2.2.2.1,x.2.2.2.2.2.2.2.2.1,x.2.2.2.2.2.2.2.2.2.1,())+wL bA x.2.2.2.2.2.2.2.2.2.2.1:=rfl;have hw6:dF (x.2.2.2.2.2.2.1,x.2.2.2.2.2.2.2.1,x.2.2.2.2.2.2.2.2.1,x.2.2.2.2.2.2.2.2.2.1,())=(x.2.2.2.2.2.2.1,x.2.2.2.2.2.2.2.1,x.2.2.2.2.2.2.2.2.1,x.2.2.2.2.2.2.2.2.2.1,()).2.2.1.length+(x.2.2.2.2.2.2.1,x.2.2.2.2.2.2.2.1,x.2.2.2.2.2.2.2.2.1,x.2.2.2.2.2.2.2.2.2.1,()).2.2.2.1.length:=rfl;have a0:ak .i64 a 1=a+1:=bd (by omega) (by omega);have a1:ak .i64 (a+1) 1=(a+1)+1:=bd (by omega) (by omega);have a2:ak .i64 ((a+1)+1) 1=((a+1)+1)+1:=bd (by omega) (by omega);have a3:ak .i64 (((a+1)+1)+1) 1=(((a+1)+1)+1)+1:=bd (by omega) (by omega);have a4:ak .i64 ((((a+1)+1)+1)+1) 1=((((a+1)+1)+1)+1)+1:=bd (by omega) (by omega);have m5:=OD x.2.2.2.2.2.1 (((((a+1)+1)+1)+1)+1) (by omega) (by omega) (by omega);have n5:aE ((((((a+1)+1)+1)+1)+1)+((cL bu x.2.2.2.2.2.1:Nat):Int)) 0=false:=aF (by omega);have a6:ak .i64 ((((((a+1)+1)+1)+1)+1)+((cL bu x.2.2.2.2.2.1:Nat):Int)) 1=((((((a+1)+1)+1)+1)+1)+((cL bu x.2.2.2.2.2.1:Nat):Int))+1:=bd (by omega) (by omega);have a7:ak .i64 (((((((a+1)+1)+1)+1)+1)+((cL bu x.2.2.2.2.2.1:Nat):Int))+1) 1=(((((((a+1)+1)+1)+1)+1)+((cL bu x.2.2.2.2.2.1:Nat):Int))+1)+1:=bd (by omega) (by omega);have m8:=GR x.2.2.2.2.2.2.2.2.1 ((((((((a+1)+1)+1)+1)+1)+((cL bu x.2.2.2.2.2.1:Nat):Int))+1)+1) (by omega) (by omega);have n8:aE (((((((((a+1)+1)+1)+1)+1)+((cL bu x.2.2.2.2.2.1:Nat):Int))+1)+1)+((cL (fun _=>1) x.2.2.2.2.2.2.2.2.1:Nat):Int)) 0=false:=aF (by omega);have m9:=GR x.2.2.2.2.2.2.2.2.2.1 (((((((((a+1)+1)+1)+1)+1)+((cL bu x.2.2.2.2.2.1:Nat):Int))+1)+1)+((cL (fun _=>1) x.2.2.2.2.2.2.2.2.1:Nat):Int)) (by omega) (by omega);have n9:aE ((((((((((a+1)+1)+1)+1)+1)+((cL bu x.2.2.2.2.2.1:Nat):Int))+1)+1)+((cL (fun _=>1) x.2.2.2.2.2.2.2.2.1:Nat):Int))+((cL (fun _=>1) x.2.2.2.2.2.2.2.2.2.1:Nat):Int)) 0=false:=aF (by omega);have m10:=N6 x.2.2.2.2.2.2.2.2.2.2.1 ((((((((((a+1)+1)+1)+1)+1)+((cL bu x.2.2.2.2.2.1:Nat):Int))+1)+1)+((cL (fun _=>1) x.2.2.2.2.2.2.2.2.1:Nat):Int))+((cL (fun _=>1) x.2.2.2.2.2.2.2.2.2.1:Nat):Int)) (by omega) (by omega) (by omega);have n10:aE (((((((((((a+1)+1)+1)+1)+1)+((cL bu x.2.2.2.2.2.1:Nat):Int))+1)+1)+((cL (fun _=>1) x.2.2.2.2.2.2.2.2.1:Nat):Int))+((cL (fun _=>1) x.2.2.2.2.2.2.2.2.2.1:Nat):Int))+((cL cO x.2.2.2.2.2.2.2.2.2.2.1:Nat):Int)) 0=false:=aF (by omega);show zB (jW ju cN xs k) a (i:Int)=_;unfold zB;have e:(((((((((((a+1)+1)+1)+1)+1)+((cL bu x.2.2.2.2.2.1:Nat):Int))+1)+1)+((cL (fun _=>1) x.2.2.2.2.2.2.2.2.1:Nat):Int))+((cL (fun _=>1) x.2.2.2.2.2.2.2.2.2.1:Nat):Int))+((cL cO x.2.2.2.2.2.2.2.2.2.2.1:Nat):Int))=a+((cN x:Nat):Int):=by omega
    simp only[aL hy,aD hy,aM _ hy,aU (show i<=bQ by omega),ju,oT,oF,oB,gI,bX,oN,a0,text (k:=a) (by omega) (by omega),a1,a2,a3,a4,m5,n5,a6,a7,m8,n8,m9,n9,m10,n10];rw[e]) (fun i x a a' hx ha hf=>by
    simp only[amu]at hf;rw[qZ _ hx];omega) (fun a ha=>by
    show zB (jW ju cN xs k) a (xs.length:Int)=_;unfold zB;rw[aA (pI _ _ _ _)];try rfl)
 rw[px cN]at h;have h':aaz (jW ju cN xs k) k 0=_:=h;rw[h'];try rfl
def kY(x:((List jM)×Unit)):Nat:=wL aI x.1
def J0(x:((List jM)×Unit)):Prop:=(x.1.length<=bQ/\∀ y∈x.1,yU y)
def P1(x:((List jM)×Unit)):Prop:=(∀ y∈x.1,R7 y)
theorem aa4(x:((List jM)×Unit))(left:Int)(h0:0<=left)(h1:left<=1048576)(hb:J0 x):g7 x left=zR (KK left (kY x)):=by
 have hw:kY x=wL aI x.1:=rfl;unfold g7
 try dsimp only
 by_cases q0:((wL aI x.1:Nat):Int)<=left;rotate_left
 . rw[Lm x.1 left (by omega) (by omega) (hb),bL q0,bL (by omega)];try rfl
 rw[Lm x.1 left (by omega) (by omega) (hb),cV q0]; dsimp only[oB]; rw[aF (by omega)]; dsimp only[oF];rw[cV (by omega)];have e:(left-((wL aI x.1:Nat):Int))=left-((kY x:Nat):Int):=by omega
 rw[e]
theorem ab7(x:((List jM)×Unit))(h:kY x<=1048576):g10 x=some ((),(x,())):=by have hw:kY x=wL aI x.1:=rfl;unfold g10;rw[WS x.1 (by omega)];try rfl
theorem Rc(x:((List jM)×Unit))(h:kY x<=1099511627776):g13 x x=zR true:=by have hw:kY x=wL aI x.1:=rfl;unfold g13;simp only[bX,gI,oN,oF,oB,beq_self_eq_true,VQ x.1 (by omega)]
def lJ(x:((List jM)×Unit)):Nat:=cL cN x.1
noncomputable def Jt(x:((List jM)×Unit))(k:Int):((List jM)×Unit):=(jW ju cN x.1 k,())
theorem HB(x:((List jM)×Unit)):lJ x<=100 * kY x:=by have hw:kY x=wL aI x.1:=rfl;have hc:lJ x=cL cN x.1:=rfl;have h0:=C8 NQ x.1;omega
theorem Ge(x:((List jM)×Unit))(k:Int)(h1:1<=k)(h2:k+((lJ x:Nat):Int)<=1099511627776)(h3:kY x<=1099511627776):g19 x k=some ((Jt x k,()),((k+((lJ x:Nat):Int),()),())):=by
 have hb:=bk;have hw:kY x=wL aI x.1:=rfl;have hc:lJ x=cL cN x.1:=rfl;have m0:=MQ x.1 k (by omega) (by omega) (by omega);unfold g19;have e:(k+((cL cN x.1:Nat):Int))=k+((lJ x:Nat):Int):=by omega
 rw[m0]; dsimp only[oB,oF];rw[e]
 try rfl
theorem Qu(x:((List jM)×Unit))(k:Int)(h1:1<=k)(h2:k+((lJ x:Nat):Int)<=1099511627776)(h3:kY x<=1099511627776):g21 (Jt x k) k=zR (k+((lJ x:Nat):Int)):=by
 have hb:=bk;have hw:kY x=wL aI x.1:=rfl;have hc:lJ x=cL cN x.1:=rfl;have m0:=Nu x.1 k (by omega) (by omega) (by omega);have n0:aE (k+((cL cN x.1:Nat):Int)) 0=false:=aF (by omega);unfold g21;have e:(k+((cL cN x.1:Nat):Int))=k+((lJ x:Nat):Int):=by omega
 unfold Jt;dsimp only;rw[m0]; dsimp only[oB,oF];rw[n0]; dsimp only[oB,oF];rw[e]
def dq(x:vW):Nat:=x.2.1.length+x.2.2.1.length
def AH(x:vW):Prop:=x.2.1.length<=bQ/\x.2.2.1.length<=bQ
def Iu(x:vW):Prop:=(∀ y∈x.2.1,pT .u8 y.1)/\(∀ y∈x.2.2.1,pT .u8 y.1)
theorem abv(x:vW)(left:Int)(h0:0<=left)(h1:left<=1048576)(hb:AH x):g35 x left=zR (KK left (dq x)):=by
 have hw:dq x=x.2.1.length+x.2.2.1.length:=rfl;unfold g35
 try dsimp only
 by_cases q0:((x.2.1.length:Nat):Int)<=left;rotate_left
 . rw[qT x.2.1 left (by omega) (by omega) (hb.1),bL q0,bL (by omega)];try rfl
 rw[qT x.2.1 left (by omega) (by omega) (hb.1),cV q0]; dsimp only[oB]; rw[aF (by omega)]; dsimp only[oF];by_cases q1:((x.2.2.1.length:Nat):Int)<=(left-((x.2.1.length:Nat):Int));rotate_left
 . rw[qT x.2.2.1 (left-((x.2.1.length:Nat):Int)) (by omega) (by omega) (hb.2),bL q1,bL (by omega)];try rfl
 rw[qT x.2.2.1 (left-((x.2.1.length:Nat):Int)) (by omega) (by omega) (hb.2),cV q1]; dsimp only[oB]; rw[aF (by omega)]; dsimp only[oF];rw[cV (by omega)];have e:((left-((x.2.1.length:Nat):Int))-((x.2.2.1.length:Nat):Int))=left-((dq x:Nat):Int):=by omega
 rw[e]
theorem abf(x:vW)(h:dq x<=1048576):g37 x=some ((),(x,())):=by have hw:dq x=x.2.1.length+x.2.2.1.length:=rfl;unfold g37;rw[EM x.2.1 (by omega)];rw[EM x.2.2.1 (by omega)];try rfl
theorem ach(x:vW)(h:dq x<=1099511627776):g40 x x=zR true:=by have hw:dq x=x.2.1.length+x.2.2.1.length:=rfl;unfold g40;simp only[bX,gI,oN,oF,oB,beq_self_eq_true,yt x.2.1 (by omega),yt x.2.2.1 (by omega)]
def kC(x:vW):Nat:=1+cL (fun _=>1) x.2.1+cL (fun _=>1) x.2.2.1
noncomputable def Ew(x:vW)(k:Int):vW:=(k,jW jF (fun _=>1) x.2.1 (k+1),jW jF (fun _=>1) x.2.2.1 ((k+1)+((cL (fun _=>1) x.2.1:Nat):Int)),())
theorem Nf(x:vW):kC x<=100 * (dq x+1):=by
 have hw:dq x=x.2.1.length+x.2.2.1.length:=rfl;have hc:kC x=1+cL (fun _=>1) x.2.1+cL (fun _=>1) x.2.2.1:=rfl;have h1:=nD x.2.1;have h2:=nD x.2.2.1
 try dsimp only at *
 omega
def gL(x:tA):Nat:=x.1.length
def cK(x:tA):Nat:=cL (fun _=>1) x.1
noncomputable def ig(x:tA)(k:Int):tA:=(jW jF (fun _=>1) x.1 k,())
theorem J8(x:tA):cK x<=100 * (gL x+1):=by
 have hw:gL x=x.1.length:=rfl;have hc:cK x=cL (fun _=>1) x.1:=rfl;have h0:=nD x.1
 try dsimp only at *
 omega
theorem TW(xs:List tA)(h:wL gL xs<=1099511627776):g25 xs xs=zR true:=by
 have hb:=bk;have hw:wL gL xs=xs.length+cL gL xs:=rfl;unfold g25;rw[bX];have h:=aS (step:=fun(x:(List tA)×(List tA)×Int×Unit)=>Bs x.1 x.2.1 x.2.2.1) xs (fun i (_:Unit)=>(xs,xs,((i:Nat):Int),())) (fun _ x _=>Sum.inl ()) (fun _=> .inl (xs,xs,(xs.length:Int),())) (a0:=()) (fun i x a hx=>by
  have aV:=ah hx;have Fs:=gj gL hx;show Bs xs xs (i:Int)=_;unfold Bs;rw[aL hx,aD hx,aM _ hx,yt x.1 (by have e:gL x=x.1.length:=rfl; omega),aU (by omega)];try rfl) (fun a=>by
  show Bs xs xs (xs.length:Int)=_;unfold Bs;rw[aA rfl];try rfl)
 rw[bS (fun _ a=>a)]at h;have h':ZM xs xs 0=_:=h;rw[h'];try rfl
theorem IN(xs:List tA)(k:Int)(h1:1<=k)(h2:k+((cL cK xs:Nat):Int)<=1099511627776)(h3:wL gL xs<=1099511627776):g27 xs k=some (((jW ig cK xs k,()),()),((k+((cL cK xs:Nat):Int),()),())):=by
 have hb:=bk;have Ph:wL gL xs=xs.length+cL gL xs:=rfl;unfold g27
 have h:=aP (step:=fun(x:(List tA)×Int×Int×Unit)=>A8 x.1 x.2.1 x.2.2.1) xs (fun i (a:List tA×Int)=>(a.1++xs.drop i,a.2,((i:Nat):Int),())) (fun _ x (a:List tA×Int)=>Sum.inl (a.1++[ig x a.2],a.2+((cK x:Nat):Int)))
  (fun a=> .inl (a.1,a.2,(xs.length:Int),())) (fun i a=>a.1.length=i/\1<=a.2/\a.2+((cL cK (xs.drop i):Nat):Int)<=1099511627776) (a0:=([],k)) ⟨rfl,h1,h2⟩ (fun i x a hx ha=>by
    have aV:=ah hx;have Fs:=gj gL hx;obtain⟨hd,Ck,uw⟩:=ha;rw[er _ hx]at uw;have hc:cK x=cL (fun _=>1) x.1:=rfl;have hw:gL x=x.1.length:=rfl;have m0:=rk x.1 a.2 (by omega) (by omega);show A8 (a.1++xs.drop i) a.2 (i:Int)=_;unfold A8;have e:(a.2+((cL (fun _=>1) x.1:Nat):Int))=a.2+((cK x:Nat):Int):=by omega
    simp only[iX hx,oW hd,fc hd,eu hd,mr _ hd,aU (show i<=bQ by omega),oT,oB,m0];rw[e,amD];try rfl) (fun i x a a' hx ha hf=>by
    obtain⟨hd,Ck,uw⟩:=ha;rw[er _ hx]at uw;simp only[amu]at hf;subst hf;refine⟨by rw[amf,hd];try rfl,?_,?_⟩
    . show 1<=a.2+((cK x:Nat):Int); omega
    . show a.2+((cK x:Nat):Int)+_<=_; omega) (fun a ha=>by
    show A8 (a.1++xs.drop xs.length) a.2 (xs.length:Int)=_;unfold A8;rw[anY,amV,aA ha.1];try rfl)
 rw[qk ig cK]at h;have h':ZO xs k 0=_:=h;rw[h'];try rfl
theorem Ja(xs:List tA)(k:Int)(h1:1<=k)(h2:k+((cL cK xs:Nat):Int)<=1099511627776)(h3:wL gL xs<=1099511627776):g28 (jW ig cK xs k) k=zR (k+((cL cK xs:Nat):Int)):=by
 have hb:=bk;have Ph:wL gL xs=xs.length+cL gL xs:=rfl;unfold g28
 have h:=aP (step:=fun(x:(List tA)×Int×Int×Unit)=>Bc x.1 x.2.1 x.2.2.1) xs (fun i (a:Int)=>(jW ig cK xs k,a,((i:Nat):Int),())) (fun _ x (a:Int)=>Sum.inl (a+((cK x:Nat):Int)))
  (fun a=> .inl (jW ig cK xs k,a,(xs.length:Int),())) (fun i a=>a=k+((cL cK (xs.take i):Nat):Int)) (a0:=k) (by simp[cL]) (fun i x a hx ha=>by
    have aV:=ah hx;have Fs:=gj gL hx;have hs:=oE cK xs i;have hy:=my ig cK xs k i x hx;rw[er _ hx]at hs;rw[<- ha]at hy;have hc:cK x=cL (fun _=>1) x.1:=rfl;have hw:gL x=x.1.length:=rfl;have m0:=Cm x.1 a (by omega) (by omega);have n0:aE (a+((cL (fun _=>1) x.1:Nat):Int)) 0=false:=aF (by omega);show Bc (jW ig cK xs k) a (i:Int)=_;unfold Bc;have e:(a+((cL (fun _=>1) x.1:Nat):Int))=a+((cK x:Nat):Int):=by omega
    simp only[aL hy,aD hy,aM _ hy,aU (show i<=bQ by omega),ig,oT,oF,oB,gI,bX,oN,m0,n0];rw[e]) (fun i x a a' hx ha hf=>by
    simp only[amu]at hf;rw[qZ _ hx];omega) (fun a ha=>by
    show Bc (jW ig cK xs k) a (xs.length:Int)=_;unfold Bc;rw[aA (pI _ _ _ _)];try rfl)
 rw[px cK]at h;have h':aaR (jW ig cK xs k) k 0=_:=h;rw[h'];try rfl
theorem DV(xs:List vW)(hb:xs.length<=bQ/\∀ y∈xs,AH y)(a:Int)(h0:0<=a)(h1:a<=1048576):ahn xs a 0=some (if ((cL dq xs:Nat):Int)<=a then .inl (xs,a-(cL dq xs:Nat),(xs.length:Int),())else .inr (-1,())):=by
 have h:=aP (step:=fun(x:(List vW)×Int×Int×Unit)=>IJ x.1 x.2.1 x.2.2.1) xs (fun i (a:Int)=>(xs,a,((i:Nat):Int),())) (fun _ x (a:Int)=>bif decide ((dq x:Int)<=a)then Sum.inl (a-dq x)else .inr (.inr (-1,())))
  (fun a=> .inl (xs,a,(xs.length:Int),())) (fun _ a=>0<=a/\a<=1048576) (a0:=a) ⟨h0,h1⟩ (fun i x a hx ha=>by
    have Fb:=amk hx;have aV:=ah hx;show IJ xs a (i:Int)=_;unfold IJ;rw[aL hx,aD hx,aM _ hx,abv x a ha.1 ha.2 (hb.2 x Fb),aU (by omega)];dsimp only[oT,oB];by_cases q:((dq x:Nat):Int)<=a
    . rw[cV q,aF (by omega),amg q];try rfl
    . rw[bL q,amB q];try rfl) (fun i x a a' hx ha hf=>by
    by_cases q:((dq x:Nat):Int)<=a
    . rw[amg q]at hf;simp only[oT,amu]at hf;omega
    . rw[amB q]at hf;simp at hf) (fun a ha=>by
    show IJ xs a (xs.length:Int)=_;unfold IJ;rw[aA rfl];try rfl)
 rw[BH _ _ _ _ _ _ h0]at h;refine ao5 h ?_;split <;> rfl
theorem Xb(xs:List vW)(left:Int)(h0:0<=left)(h1:left<=1048576)(hb:xs.length<=bQ/\∀ y∈xs,AH y):g8 xs left=zR (KK left (wL dq xs)):=by
 have hw:wL dq xs=xs.length+cL dq xs:=rfl;unfold g8;dsimp only;rw[fW (s:=xs) (left:=left) (by omega) (by omega) hb.1];by_cases q:((xs.length:Nat):Int)<=left
 . rw[aF (by omega)];dsimp only[oF];rw[DV xs hb _ (by omega) (by omega)];by_cases q2:((cL dq xs:Nat):Int)<=left-(xs.length:Int)
   . rw[if_pos q2,cV (by omega)];dsimp only[oB,oL];have e:left-(xs.length:Int)-(cL dq xs:Nat)=left-((wL dq xs:Nat):Int):=by omega
     rw[e]
   . rw[if_neg q2,bL (by omega)];try rfl
 . rw[aR (by omega),bL (by omega)];try rfl
theorem WE(xs:List vW)(h:wL dq xs<=1048576):g11 xs=zR xs:=by
 have hb:=bk;have hw:wL dq xs=xs.length+cL dq xs:=rfl;unfold g11;dsimp only;rw[si (by decide) (by omega),mC]
 have h:=aP (step:=fun(x:(List vW)×(List xf)×Int×Unit)=>zO x.1 x.2.1 x.2.2.1) xs (fun i (a:List vW)=>(xs,a++List.replicate (xs.length-i) d62,((i:Nat):Int),())) (fun _ x (a:List vW)=>Sum.inl (a++[x]))
  (fun a=> .inl (xs,a,(xs.length:Int),())) (fun i a=>a.length=i) (a0:=[]) rfl (fun i x a hx ha=>by
    have aV:=ah hx;have Fs:=gj dq hx;show zO xs (a++List.replicate (xs.length-i) d62) (i:Int)=_;unfold zO;obtain⟨q,hq⟩:∃ q,xs.length-i=q+1:=⟨xs.length-i-1,by omega⟩;have v7:xs.length-(i+1)=q:=by omega
    rw[hq,an2,aL hx,aD hx,aM _ hx,abf x (by omega)];dsimp only[oT,oB];simp only[fc ha,mr _ ha,eu ha,aU (show i<=bQ by omega),v7,oT,amD,aoa]) (fun i x a a' hx ha hf=>by
    simp only[amu]at hf;rw[<- hf,amf,ha];try rfl) (fun a ha=>by
    show zO xs (a++List.replicate (xs.length-xs.length) d62) (xs.length:Int)=_;unfold zO;rw[aA rfl,an4,an3,amV];try rfl)
 rw[mw]at h;have h':YS xs (List.replicate xs.length d62) 0=_:=h;rw[h'];try rfl
theorem XC(xs:List xf)(h:wL dq xs<=1099511627776):g14 xs xs=zR true:=by
 have hb:=bk;have hw:wL dq xs=xs.length+cL dq xs:=rfl;unfold g14;rw[bX];have h:=aS (step:=fun(x:(List xf)×(List xf)×Int×Unit)=>AD x.1 x.2.1 x.2.2.1) xs (fun i (_:Unit)=>(xs,xs,((i:Nat):Int),())) (fun _ x _=>Sum.inl ()) (fun _=> .inl (xs,xs,(xs.length:Int),())) (a0:=()) (fun i x a hx=>by
  have aV:=ah hx;have Fs:=gj dq hx;show AD xs xs (i:Int)=_;unfold AD;rw[aL hx,aD hx,aM _ hx,ach x (by omega),aU (by omega)];try rfl) (fun a=>by
  show AD xs xs (xs.length:Int)=_;unfold AD;rw[aA rfl];try rfl)
 rw[bS (fun _ a=>a)]at h;have h':YU xs xs 0=_:=h;rw[h'];try rfl
theorem Ov(xs:List xf)(k:Int)(h1:1<=k)(h2:k+((cL kC xs:Nat):Int)<=1099511627776)(h3:wL dq xs<=1099511627776):g26 xs k=some (((jW Ew kC xs k,()),()),((k+((cL kC xs:Nat):Int),()),())):=by
 have hb:=bk;have Ph:wL dq xs=xs.length+cL dq xs:=rfl;unfold g26
 have h:=aP (step:=fun(x:(List xf)×Int×Int×Unit)=>AE x.1 x.2.1 x.2.2.1) xs (fun i (a:List xf×Int)=>(a.1++xs.drop i,a.2,((i:Nat):Int),())) (fun _ x (a:List xf×Int)=>Sum.inl (a.1++[Ew x a.2],a.2+((kC x:Nat):Int)))
  (fun a=> .inl (a.1,a.2,(xs.length:Int),())) (fun i a=>a.1.length=i/\1<=a.2/\a.2+((cL kC (xs.drop i):Nat):Int)<=1099511627776) (a0:=([],k)) ⟨rfl,h1,h2⟩ (fun i x a hx ha=>by
    have aV:=ah hx;have Fs:=gj dq hx;obtain⟨hd,Ck,uw⟩:=ha;rw[er _ hx]at uw;have hc:kC x=1+cL (fun _=>1) x.2.1+cL (fun _=>1) x.2.2.1:=rfl;have hw:dq x=x.2.1.length+x.2.2.1.length:=rfl;have a0:ak .i64 a.2 1=a.2+1:=bd (by omega) (by omega);have m1:=rk x.2.1 (a.2+1) (by omega) (by omega);have m2:=rk x.2.2.1 ((a.2+1)+((cL (fun _=>1) x.2.1:Nat):Int)) (by omega) (by omega);show AE (a.1++xs.drop i) a.2 (i:Int)=_;unfold AE;have e:(((a.2+1)+((cL (fun _=>1) x.2.1:Nat):Int))+((cL (fun _=>1) x.2.2.1:Nat):Int))=a.2+((kC x:Nat):Int):=by omega
    simp only[iX hx,oW hd,fc hd,eu hd,mr _ hd,aU (show i<=bQ by omega),oT,oB,a0,m1,m2];rw[e,amD];try rfl) (fun i x a a' hx ha hf=>by
    obtain⟨hd,Ck,uw⟩:=ha;rw[er _ hx]at uw;simp only[amu]at hf;subst hf;refine⟨by rw[amf,hd];try rfl,?_,?_⟩
    . show 1<=a.2+((kC x:Nat):Int); omega
    . show a.2+((kC x:Nat):Int)+_<=_; omega) (fun a ha=>by
    show AE (a.1++xs.drop xs.length) a.2 (xs.length:Int)=_;unfold AE;rw[anY,amV,aA ha.1];try rfl)
 rw[qk Ew kC]at h;have h':Z9 xs k 0=_:=h;rw[h'];try rfl
end Go.Av
