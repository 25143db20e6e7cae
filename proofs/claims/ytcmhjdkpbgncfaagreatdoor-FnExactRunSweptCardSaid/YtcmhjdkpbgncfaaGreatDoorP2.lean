/- FnExactRunSwept, a part. -/
import Derived.Test.YtcmhjdkpbgncfaaGreatDoorP1
import Derived.Test.YtcmhjdkpbgncfaaGreatDoorFw4
set_option maxRecDepth 100000
set_option maxHeartbeats 4000000
namespace Go.Av
theorem NH:∀(n:Nat) (t:Int) (s:S8),0<=t->t<10 ^ n->n<=18->s.length+n<=1000->∃ t' s',Rx t s=some (.inl (t',s',()))/\s'.length<=s.length+n:=by
 intro n;have bo:=bl;induction n with
 | zero=>
   intro t s h0 h1 h3 h2;refine⟨t,s,?_,by omega⟩;have:t=0:=by simp at h1;omega
   subst this;exact dK _ (by show qg 0 s=_;unfold qg;rfl)
 | succ n ih=>
   intro t s h0 h1 h3 h2;by_cases ht:0<t
   . have hp:t<10 ^ n * 10:=by rw[Int.pow_succ]at h1;exact h1
     have hle:(10:Int) ^ n<=10 ^ 18:=by
      have hn:n<=18:=by omega
      exact_mod_cast (aov (by decide) hn:10 ^ n<=10 ^ 18)
     have ame:(10:Int) ^ n<=1000000000000000000:=hle;have hq:kr .i64 t 10=t / 10:=by unfold kr;rw[anS h0];exact IntWalk.i64_in _ (by omega)
     have hc:(strOf [((dC .u8 (ak .i64 48 (eH t 10))),())]).length=1:=rfl;have OX:(uz (strOf [((dC .u8 (ak .i64 48 (eH t 10))),())]) s).length=1+s.length:=by rw[<- hc];exact amj
     obtain⟨t',s',e1,e2⟩:=ih (t / 10) (uz (strOf [((dC .u8 (ak .i64 48 (eH t 10))),())]) s) (by omega) (by omega) (by omega) (by omega);refine⟨t',s',ez _ (x':=(t / 10,uz (strOf [((dC .u8 (ak .i64 48 (eH t 10))),())]) s,())) ?_ e1,by omega⟩;show qg t s=_;unfold qg;have hf:jx (strOf [((dC .u8 (ak .i64 48 (eH t 10))),())]) s=true:=amq (by omega);dsimp only;rw[aR ht,hq,hf];try rfl
   . refine⟨t,s,?_,by omega⟩;exact dK _ (by show qg t s=_;unfold qg;rw[aF ht];try rfl)
noncomputable def mt(k:Int):S8:=match xb k with | some y=>y.2.1.1 | none=>[]
theorem text{k:Int}(h1:1<=k)(h2:k<=99999999999999999):xb k=zR (mt k):=by
 have bo:=bl;obtain⟨t',s',e1,e2⟩:=NH 17 k [] (by omega) (by omega) (by decide) (by simp);have hr:xb k=zR (uz [109] s'):=by unfold xb;have hf:jx [109] s'=true:=amq (by simp at e2 ⊢;omega);have hle:cl k 0=false:=amF (by omega);rw[hle,e1];dsimp only[oF,oB,oL];rw[hf];try rfl
 have hm:mt k=uz [109] s':=by unfold mt;rw[hr]
 rw[hm];exact hr
def aZ(x:kK):Nat:=x.1.length
def BC(x:kK):Prop:=x.1.length<=bQ
theorem abW(x:kK)(left:Int)(h0:0<=left)(h1:left<=1048576)(hb:BC x):VX x left=zR (Ma left (aZ x)):=by
 have hw:aZ x=x.1.length:=rfl;unfold VX
 try dsimp only
 by_cases q0:((x.1.length:Nat):Int)<=left;rotate_left
 . rw[fW (s:=x.1) (left:=left) (by omega) (by omega) hb];rw[aR (by omega),bL (by omega)];try rfl
 rw[fW (s:=x.1) (left:=left) (by omega) (by omega) hb];rw[aF (by omega)];dsimp only[oF];rw[cV (by omega)];have e:(left-((x.1.length:Nat):Int))=left-((aZ x:Nat):Int):=by omega
 rw[e]
theorem acs(x:kK)(h:aZ x<=1048576):WB x=some ((),(x,())):=by have hw:aZ x=x.1.length:=rfl;unfold WB;rfl
theorem ab1(x:kK)(h:aZ x<=1099511627776):Wv x x=zR true:=by have hw:aZ x=x.1.length:=rfl;unfold Wv;simp only[bX,gF,oN,oF,oB,beq_self_eq_true]
def bu(x:kK):Nat:=1+1+1
noncomputable def ju(x:kK)(k:Int):kK:=(mt k,(k+1),((k+1)+1),())
theorem Nw(x:kK):bu x<=100 * (aZ x+1):=by
 have hw:aZ x=x.1.length:=rfl;have hc:bu x=1+1+1:=rfl
 try dsimp only at *
 omega
theorem DR(x:(List R3))(left:Int)(h0:0<=left)(h1:left<=1048576)(hb:x.length<=bQ):Q7 x left=zR (Ma left x.length):=by
 unfold Q7;dsimp only;by_cases q:((x.length:Nat):Int)<=left
 . rw[fW (s:=x) (left:=left) (by omega) (by omega) hb,aF (by omega),cV q];try rfl
 . rw[fW (s:=x) (left:=left) (by omega) (by omega) hb,aR (by omega),bL q];try rfl
theorem Jz(xs:List R3)(h:xs.length<=1048576):g30 xs=zR xs:=by
 have hb:=bl;unfold g30;dsimp only;rw[tG (by decide) (by omega),mK]
 have h:=aO (step:=fun(x:(List R3)×(List R3)×Int×Unit)=>Bh x.1 x.2.1 x.2.2.1) xs (fun i (a:List R3)=>(xs,a++List.replicate (xs.length-i) d3,((i:Nat):Int),())) (fun _ x (a:List R3)=>Sum.inl (a++[x]))
  (fun a=> .inl (xs,a,(xs.length:Int),())) (fun i a=>a.length=i) (a0:=[]) rfl (fun i x a hx ha=>by
    have aV:=ah hx;show Bh xs (a++List.replicate (xs.length-i) d3) (i:Int)=_;unfold Bh;obtain⟨q,hq⟩:∃ q,xs.length-i=q+1:=⟨xs.length-i-1,by omega⟩;have wb:xs.length-(i+1)=q:=by omega
    rw[hq,an6,aL hx,aD hx,fb ha,aM _ hx,et ha,aU (by omega),wb];dsimp only[oT];rw[amH];try rfl) (fun i x a a' hx ha hf=>by
    simp only[amx]at hf;rw[<- hf,amj,ha];try rfl) (fun a ha=>by
    show Bh xs (a++List.replicate (xs.length-xs.length) d3) (xs.length:Int)=_;unfold Bh;rw[aA rfl,an8,an7,amZ];try rfl)
 rw[mh]at h;have h':ZO xs (List.replicate xs.length d3) 0=_:=h;rw[h'];try rfl
theorem IT(xs:List R3)(h:xs.length<=1099511627776):g32 xs xs=zR true:=by
 have hb:=bl;unfold g32;rw[bX];have h:=aT (step:=fun(x:(List R3)×(List R3)×Int×Unit)=>BH x.1 x.2.1 x.2.2.1) xs (fun i (_:Unit)=>(xs,xs,((i:Nat):Int),())) (fun _ x _=>Sum.inl ()) (fun _=> .inl (xs,xs,(xs.length:Int),())) (a0:=()) (fun i x a hx=>by
  have aV:=ah hx;show BH xs xs (i:Int)=_;unfold BH;rw[aL hx,aD hx,aM _ hx,bX,aU (by omega)];try rfl) (fun a=>by
  show BH xs xs (xs.length:Int)=_;unfold BH;rw[aA rfl];try rfl)
 rw[bS (fun _ a=>a)]at h;have h':YJ xs xs 0=_:=h;rw[h'];try rfl
def mkInt(x:Int×Unit)(k:Int):Int×Unit:=(k,())
theorem Bb(xs:List R3)(k:Int)(h1:1<=k)(h2:k+((cL (fun _=>1) xs:Nat):Int)<=1099511627776):g33 xs k=some (((jX mkInt (fun _=>1) xs k,()),()),((k+((cL (fun _=>1) xs:Nat):Int),()),())):=by
 have hb:=bl;have hlen:xs.length<=1099511627776:=by rw[mJ]at h2;omega
 unfold g33
 have h:=aO (step:=fun(x:(List R3)×Int×Int×Unit)=>AU x.1 x.2.1 x.2.2.1) xs (fun i (a:List R3×Int)=>(a.1++xs.drop i,a.2,((i:Nat):Int),())) (fun _ x (a:List R3×Int)=>Sum.inl (a.1++[mkInt x a.2],a.2+((1:Nat):Int)))
  (fun a=> .inl (a.1,a.2,(xs.length:Int),())) (fun i a=>a.1.length=i/\1<=a.2/\a.2+((cL (fun _=>1) (xs.drop i):Nat):Int)<=1099511627776) (a0:=([],k)) ⟨rfl,h1,h2⟩ (fun i x a hx ha=>by
    have aV:=ah hx;obtain⟨hd,Cn,ux⟩:=ha;rw[ew _ hx]at ux;have a1:ak .i64 a.2 1=a.2+1:=bd (by omega) (by omega);show AU (a.1++xs.drop i) a.2 (i:Int)=_;unfold AU;rw[iX hx,pc hd,fb hd,et hd,aU (by omega),a1];dsimp only[oT];rw[amH];try rfl) (fun i x a a' hx ha hf=>by
    obtain⟨hd,Cn,ux⟩:=ha;rw[ew _ hx]at ux;simp only[amx]at hf;subst hf;refine⟨by rw[amj,hd];try rfl,?_,?_⟩
    . show 1<=a.2+((1:Nat):Int);omega
    . show a.2+((1:Nat):Int)+_<=_;omega) (fun a ha=>by
    show AU (a.1++xs.drop xs.length) a.2 (xs.length:Int)=_;unfold AU;rw[an2,amZ,aA ha.1];try rfl)
 rw[qt mkInt (fun _=>1)]at h;have h':Z9 xs k 0=_:=h;rw[h'];try rfl
theorem HK(xs:List R3)(k:Int)(h1:1<=k)(h2:k+((cL (fun _=>1) xs:Nat):Int)<=1099511627776):Tu (jX mkInt (fun _=>1) xs k) k=zR (k+((cL (fun _=>1) xs:Nat):Int)):=by
 have hb:=bl;have hlen:xs.length<=1099511627776:=by rw[mJ]at h2;omega
 unfold Tu
 have h:=aO (step:=fun(x:(List R3)×Int×Int×Unit)=>sZ x.1 x.2.1 x.2.2.1) xs (fun i (a:Int)=>(jX mkInt (fun _=>1) xs k,a,((i:Nat):Int),())) (fun _ x (a:Int)=>Sum.inl (a+((1:Nat):Int)))
  (fun a=> .inl (jX mkInt (fun _=>1) xs k,a,(xs.length:Int),())) (fun i a=>a=k+((cL (fun _=>1) (xs.take i):Nat):Int)) (a0:=k) (by simp[cL]) (fun i x a hx ha=>by
    have aV:=ah hx;have hs:=ow (fun _=>1) xs i;have hy:=mI mkInt (fun _=>1) xs k i x hx;rw[ew _ hx]at hs;rw[<- ha]at hy;have a1:ak .i64 a 1=a+1:=bd (by omega) (by omega);show sZ (jX mkInt (fun _=>1) xs k) a (i:Int)=_;unfold sZ;rw[aL hy,aD hy,aM _ hy,aU (by omega),a1];simp only[mkInt,bX,oN,oT,oF];try rfl) (fun i x a a' hx ha hf=>by
    simp only[amx]at hf;rw[rj _ hx];omega) (fun a ha=>by
    show sZ (jX mkInt (fun _=>1) xs k) a (xs.length:Int)=_;unfold sZ;rw[aA (ph _ _ _ _)];try rfl)
 rw[pg (fun _=>1)]at h;have h':Q6 (jX mkInt (fun _=>1) xs k) k 0=_:=h;rw[h'];try rfl
def dD(x:(Int×Int×(List R3)×(List R3)×Unit)):Nat:=x.2.2.1.length+x.2.2.2.1.length
def Qt(x:(Int×Int×(List R3)×(List R3)×Unit)):Prop:=x.2.2.1.length<=bQ/\x.2.2.2.1.length<=bQ
theorem Rp(x:(Int×Int×(List R3)×(List R3)×Unit))(left:Int)(h0:0<=left)(h1:left<=1048576)(hb:Qt x):Xx x left=zR (Ma left (dD x)):=by
 have hw:dD x=x.2.2.1.length+x.2.2.2.1.length:=rfl;unfold Xx
 try dsimp only
 by_cases q0:((x.2.2.1.length:Nat):Int)<=left;rotate_left
 . rw[DR x.2.2.1 left (by omega) (by omega) (hb.1),bL q0,bL (by omega)];try rfl
 rw[DR x.2.2.1 left (by omega) (by omega) (hb.1),cV q0];dsimp only[oB];rw[aF (by omega)];dsimp only[oF];by_cases q1:((x.2.2.2.1.length:Nat):Int)<=(left-((x.2.2.1.length:Nat):Int));rotate_left
 . rw[DR x.2.2.2.1 (left-((x.2.2.1.length:Nat):Int)) (by omega) (by omega) (hb.2),bL q1,bL (by omega)];try rfl
 rw[DR x.2.2.2.1 (left-((x.2.2.1.length:Nat):Int)) (by omega) (by omega) (hb.2),cV q1];dsimp only[oB];rw[aF (by omega)];dsimp only[oF];rw[cV (by omega)];have e:((left-((x.2.2.1.length:Nat):Int))-((x.2.2.2.1.length:Nat):Int))=left-((dD x:Nat):Int):=by omega
 rw[e]
theorem toRing(x:(Int×Int×(List R3)×(List R3)×Unit))(h:dD x<=1048576):VH x=some ((),(x,())):=by have hw:dD x=x.2.2.1.length+x.2.2.2.1.length:=rfl;unfold VH;rw[Jz x.2.2.1 (by omega)];rw[Jz x.2.2.2.1 (by omega)];try rfl
theorem adQ(x:(Int×Int×(List R3)×(List R3)×Unit))(h:dD x<=1099511627776):W9 x x=zR true:=by have hw:dD x=x.2.2.1.length+x.2.2.2.1.length:=rfl;unfold W9;simp only[bX,gF,oN,oF,oB,beq_self_eq_true,IT x.2.2.1 (by omega),IT x.2.2.2.1 (by omega)]
theorem q9(x:(List R5))(left:Int)(h0:0<=left)(h1:left<=1048576)(hb:x.length<=bQ):g74 x left=zR (Ma left x.length):=by
 unfold g74;dsimp only;by_cases q:((x.length:Nat):Int)<=left
 . rw[fW (s:=x) (left:=left) (by omega) (by omega) hb,aF (by omega),cV q];try rfl
 . rw[fW (s:=x) (left:=left) (by omega) (by omega) hb,aR (by omega),bL q];try rfl
theorem D7(xs:List R5)(h:xs.length<=1048576):g16 xs=zR xs:=by
 have hb:=bl;unfold g16;dsimp only;rw[tG (by decide) (by omega),mK]
 have h:=aO (step:=fun(x:(List R5)×(List R5)×Int×Unit)=>BJ x.1 x.2.1 x.2.2.1) xs (fun i (a:List R5)=>(xs,a++List.replicate (xs.length-i) d5,((i:Nat):Int),())) (fun _ x (a:List R5)=>Sum.inl (a++[x]))
  (fun a=> .inl (xs,a,(xs.length:Int),())) (fun i a=>a.length=i) (a0:=[]) rfl (fun i x a hx ha=>by
    have aV:=ah hx;show BJ xs (a++List.replicate (xs.length-i) d5) (i:Int)=_;unfold BJ;obtain⟨q,hq⟩:∃ q,xs.length-i=q+1:=⟨xs.length-i-1,by omega⟩;have wb:xs.length-(i+1)=q:=by omega
    rw[hq,an6,aL hx,aD hx,fb ha,aM _ hx,et ha,aU (by omega),wb];dsimp only[oT];rw[amH];try rfl) (fun i x a a' hx ha hf=>by
    simp only[amx]at hf;rw[<- hf,amj,ha];try rfl) (fun a ha=>by
    show BJ xs (a++List.replicate (xs.length-xs.length) d5) (xs.length:Int)=_;unfold BJ;rw[aA rfl,an8,an7,amZ];try rfl)
 rw[mh]at h;have h':YW xs (List.replicate xs.length d5) 0=_:=h;rw[h'];try rfl
theorem yG(xs:List R5)(h:xs.length<=1099511627776):g18 xs xs=zR true:=by
 have hb:=bl;unfold g18;rw[bX];have h:=aT (step:=fun(x:(List R5)×(List R5)×Int×Unit)=>yS x.1 x.2.1 x.2.2.1) xs (fun i (_:Unit)=>(xs,xs,((i:Nat):Int),())) (fun _ x _=>Sum.inl ()) (fun _=> .inl (xs,xs,(xs.length:Int),())) (a0:=()) (fun i x a hx=>by
  have aV:=ah hx;show yS xs xs (i:Int)=_;unfold yS;rw[aL hx,aD hx,aM _ hx,bX,aU (by omega)];try rfl) (fun a=>by
  show yS xs xs (xs.length:Int)=_;unfold yS;rw[aA rfl];try rfl)
 rw[bS (fun _ a=>a)]at h;have h':YR xs xs 0=_:=h;rw[h'];try rfl
def jJ(x:Int×Unit)(k:Int):Int×Unit:=(dC .u8 k,())
theorem qZ(xs:List R5)(k:Int)(h1:1<=k)(h2:k+((cL (fun _=>1) xs:Nat):Int)<=1099511627776):g20 xs k=some (((jX jJ (fun _=>1) xs k,()),()),((k+((cL (fun _=>1) xs:Nat):Int),()),())):=by
 have hb:=bl;have hlen:xs.length<=1099511627776:=by rw[mJ]at h2;omega
 unfold g20
 have h:=aO (step:=fun(x:(List R5)×Int×Int×Unit)=>AS x.1 x.2.1 x.2.2.1) xs (fun i (a:List R5×Int)=>(a.1++xs.drop i,a.2,((i:Nat):Int),())) (fun _ x (a:List R5×Int)=>Sum.inl (a.1++[jJ x a.2],a.2+((1:Nat):Int)))
  (fun a=> .inl (a.1,a.2,(xs.length:Int),())) (fun i a=>a.1.length=i/\1<=a.2/\a.2+((cL (fun _=>1) (xs.drop i):Nat):Int)<=1099511627776) (a0:=([],k)) ⟨rfl,h1,h2⟩ (fun i x a hx ha=>by
    have aV:=ah hx;obtain⟨hd,Cn,ux⟩:=ha;rw[ew _ hx]at ux;have a1:ak .i64 a.2 1=a.2+1:=bd (by omega) (by omega);show AS (a.1++xs.drop i) a.2 (i:Int)=_;unfold AS;rw[iX hx,pc hd,fb hd,et hd,aU (by omega),a1];dsimp only[oT];rw[amH];try rfl) (fun i x a a' hx ha hf=>by
    obtain⟨hd,Cn,ux⟩:=ha;rw[ew _ hx]at ux;simp only[amx]at hf;subst hf;refine⟨by rw[amj,hd];try rfl,?_,?_⟩
    . show 1<=a.2+((1:Nat):Int);omega
    . show a.2+((1:Nat):Int)+_<=_;omega) (fun a ha=>by
    show AS (a.1++xs.drop xs.length) a.2 (xs.length:Int)=_;unfold AS;rw[an2,amZ,aA ha.1];try rfl)
 rw[qt jJ (fun _=>1)]at h;have h':aah xs k 0=_:=h;rw[h'];try rfl
theorem C7(xs:List R5)(k:Int)(h1:1<=k)(h2:k+((cL (fun _=>1) xs:Nat):Int)<=1099511627776):g22 (jX jJ (fun _=>1) xs k) k=zR (k+((cL (fun _=>1) xs:Nat):Int)):=by
 have hb:=bl;have hlen:xs.length<=1099511627776:=by rw[mJ]at h2;omega
 unfold g22
 have h:=aO (step:=fun(x:(List R5)×Int×Int×Unit)=>BA x.1 x.2.1 x.2.2.1) xs (fun i (a:Int)=>(jX jJ (fun _=>1) xs k,a,((i:Nat):Int),())) (fun _ x (a:Int)=>Sum.inl (a+((1:Nat):Int)))
  (fun a=> .inl (jX jJ (fun _=>1) xs k,a,(xs.length:Int),())) (fun i a=>a=k+((cL (fun _=>1) (xs.take i):Nat):Int)) (a0:=k) (by simp[cL]) (fun i x a hx ha=>by
    have aV:=ah hx;have hs:=ow (fun _=>1) xs i;have hy:=mI jJ (fun _=>1) xs k i x hx;rw[ew _ hx]at hs;rw[<- ha]at hy;have a1:ak .i64 a 1=a+1:=bd (by omega) (by omega);show BA (jX jJ (fun _=>1) xs k) a (i:Int)=_;unfold BA;rw[aL hy,aD hy,aM _ hy,aU (by omega),a1];simp only[jJ,bX,oN,oT,oF];try rfl) (fun i x a a' hx ha hf=>by
    simp only[amx]at hf;rw[rj _ hx];omega) (fun a ha=>by
    show BA (jX jJ (fun _=>1) xs k) a (xs.length:Int)=_;unfold BA;rw[aA (ph _ _ _ _)];try rfl)
 rw[pg (fun _=>1)]at h;have h':aap (jX jJ (fun _=>1) xs k) k 0=_:=h;rw[h'];try rfl
def bz(x:jD):Nat:=x.1.length+x.2.1.length+x.2.2.1.length
def zX(x:jD):Prop:=x.1.length<=bQ/\x.2.1.length<=bQ/\x.2.2.1.length<=bQ
def PB(x:jD):Prop:=(∀ y∈x.2.2.1,pT .u8 y.1)
theorem adM(x:jD)(left:Int)(h0:0<=left)(h1:left<=1048576)(hb:zX x):VI x left=zR (Ma left (bz x)):=by
 have hw:bz x=x.1.length+x.2.1.length+x.2.2.1.length:=rfl;unfold VI
 try dsimp only
 by_cases q0:((x.1.length:Nat):Int)<=left;rotate_left
 . rw[fW (s:=x.1) (left:=left) (by omega) (by omega) hb.1];rw[aR (by omega),bL (by omega)];try rfl
 rw[fW (s:=x.1) (left:=left) (by omega) (by omega) hb.1];rw[aF (by omega)];dsimp only[oF];by_cases q1:((x.2.1.length:Nat):Int)<=(left-((x.1.length:Nat):Int));rotate_left
 . rw[fW (s:=x.2.1) (left:=(left-((x.1.length:Nat):Int))) (by omega) (by omega) hb.2.1];rw[aR (by omega),bL (by omega)];try rfl
 rw[fW (s:=x.2.1) (left:=(left-((x.1.length:Nat):Int))) (by omega) (by omega) hb.2.1];rw[aF (by omega)];dsimp only[oF];by_cases q2:((x.2.2.1.length:Nat):Int)<=((left-((x.1.length:Nat):Int))-((x.2.1.length:Nat):Int));rotate_left
 . rw[q9 x.2.2.1 ((left-((x.1.length:Nat):Int))-((x.2.1.length:Nat):Int)) (by omega) (by omega) (hb.2.2),bL q2,bL (by omega)];try rfl
 rw[q9 x.2.2.1 ((left-((x.1.length:Nat):Int))-((x.2.1.length:Nat):Int)) (by omega) (by omega) (hb.2.2),cV q2];dsimp only[oB];rw[aF (by omega)];dsimp only[oF];rw[cV (by omega)];have e:(((left-((x.1.length:Nat):Int))-((x.2.1.length:Nat):Int))-((x.2.2.1.length:Nat):Int))=left-((bz x:Nat):Int):=by omega
 rw[e]
theorem ab0(x:jD)(h:bz x<=1048576):Ws x=some ((),(x,())):=by have hw:bz x=x.1.length+x.2.1.length+x.2.2.1.length:=rfl;unfold Ws;rw[D7 x.2.2.1 (by omega)];try rfl
theorem ac8(x:jD)(h:bz x<=1099511627776):WW x x=zR true:=by have hw:bz x=x.1.length+x.2.1.length+x.2.2.1.length:=rfl;unfold WW;simp only[bX,gF,oN,oF,oB,beq_self_eq_true,yG x.2.2.1 (by omega)]
def cP(x:jD):Nat:=1+1+cL (fun _=>1) x.2.2.1
noncomputable def jo(x:jD)(k:Int):jD:=(mt k,mt (k+1),jX jJ (fun _=>1) x.2.2.1 ((k+1)+1),())
theorem NS(x:jD):cP x<=100 * (bz x+1):=by
 have hw:bz x=x.1.length+x.2.1.length+x.2.2.1.length:=rfl;have hc:cP x=1+1+cL (fun _=>1) x.2.2.1:=rfl;have h2:=mJ x.2.2.1
 try dsimp only at *
 omega
theorem D0(xs:List kK)(hb:xs.length<=bQ/\∀ y∈xs,BC y)(a:Int)(h0:0<=a)(h1:a<=1048576):Rl xs a 0=some (if ((cL aZ xs:Nat):Int)<=a then .inl (xs,a-(cL aZ xs:Nat),(xs.length:Int),())else .inr (-1,())):=by
 have h:=aO (step:=fun(x:(List kK)×Int×Int×Unit)=>sV x.1 x.2.1 x.2.2.1) xs (fun i (a:Int)=>(xs,a,((i:Nat):Int),())) (fun _ x (a:Int)=>bif decide ((aZ x:Int)<=a)then Sum.inl (a-aZ x)else .inr (.inr (-1,())))
  (fun a=> .inl (xs,a,(xs.length:Int),())) (fun _ a=>0<=a/\a<=1048576) (a0:=a) ⟨h0,h1⟩ (fun i x a hx ha=>by
    have Ff:=amo hx;have aV:=ah hx;show sV xs a (i:Int)=_;unfold sV;rw[aL hx,aD hx,aM _ hx,abW x a ha.1 ha.2 (hb.2 x Ff),aU (by omega)];dsimp only[oT,oB];by_cases q:((aZ x:Nat):Int)<=a
    . rw[cV q,aF (by omega),amk q];try rfl
    . rw[bL q,amF q];try rfl) (fun i x a a' hx ha hf=>by
    by_cases q:((aZ x:Nat):Int)<=a
    . rw[amk q]at hf;simp only[oT,amx]at hf;omega
    . rw[amF q]at hf;simp at hf) (fun a ha=>by
    show sV xs a (xs.length:Int)=_;unfold sV;rw[aA rfl];try rfl)
 rw[zH _ _ _ _ _ _ h0]at h;refine ao9 h ?_;split <;> rfl
theorem Lh(xs:List kK)(left:Int)(h0:0<=left)(h1:left<=1048576)(hb:xs.length<=bQ/\∀ y∈xs,BC y):XR xs left=zR (Ma left (wL aZ xs)):=by
 have hw:wL aZ xs=xs.length+cL aZ xs:=rfl;unfold XR;dsimp only;rw[fW (s:=xs) (left:=left) (by omega) (by omega) hb.1];by_cases q:((xs.length:Nat):Int)<=left
 . rw[aF (by omega)];dsimp only[oF];rw[D0 xs hb _ (by omega) (by omega)];by_cases q2:((cL aZ xs:Nat):Int)<=left-(xs.length:Int)
   . rw[if_pos q2,cV (by omega)];dsimp only[oB,oL];have e:left-(xs.length:Int)-(cL aZ xs:Nat)=left-((wL aZ xs:Nat):Int):=by omega
     rw[e]
   . rw[if_neg q2,bL (by omega)];try rfl
 . rw[aR (by omega),bL (by omega)];try rfl
theorem VD(xs:List kK)(h:wL aZ xs<=1048576):VP xs=zR xs:=by
 have hb:=bl;have hw:wL aZ xs=xs.length+cL aZ xs:=rfl;unfold VP;dsimp only;rw[tG (by decide) (by omega),mK]
 have h:=aO (step:=fun(x:(List kK)×(List bA)×Int×Unit)=>tJ x.1 x.2.1 x.2.2.1) xs (fun i (a:List kK)=>(xs,a++List.replicate (xs.length-i) d192,((i:Nat):Int),())) (fun _ x (a:List kK)=>Sum.inl (a++[x]))
  (fun a=> .inl (xs,a,(xs.length:Int),())) (fun i a=>a.length=i) (a0:=[]) rfl (fun i x a hx ha=>by
    have aV:=ah hx;have Fv:=gf aZ hx;show tJ xs (a++List.replicate (xs.length-i) d192) (i:Int)=_;unfold tJ;obtain⟨q,hq⟩:∃ q,xs.length-i=q+1:=⟨xs.length-i-1,by omega⟩;have wb:xs.length-(i+1)=q:=by omega
    rw[hq,an6,aL hx,aD hx,aM _ hx,acs x (by omega)];dsimp only[oT,oB];simp only[fb ha,mc _ ha,et ha,aU (show i<=bQ by omega),wb,oT,amH,aoe]) (fun i x a a' hx ha hf=>by
    simp only[amx]at hf;rw[<- hf,amj,ha];try rfl) (fun a ha=>by
    show tJ xs (a++List.replicate (xs.length-xs.length) d192) (xs.length:Int)=_;unfold tJ;rw[aA rfl,an8,an7,amZ];try rfl)
 rw[mh]at h;have h':PD xs (List.replicate xs.length d192) 0=_:=h;rw[h'];try rfl
theorem Yb(xs:List bA)(h:wL aZ xs<=1099511627776):XW xs xs=zR true:=by
 have hb:=bl;have hw:wL aZ xs=xs.length+cL aZ xs:=rfl;unfold XW;rw[bX];have h:=aT (step:=fun(x:(List bA)×(List bA)×Int×Unit)=>sw x.1 x.2.1 x.2.2.1) xs (fun i (_:Unit)=>(xs,xs,((i:Nat):Int),())) (fun _ x _=>Sum.inl ()) (fun _=> .inl (xs,xs,(xs.length:Int),())) (a0:=()) (fun i x a hx=>by
  have aV:=ah hx;have Fv:=gf aZ hx;show sw xs xs (i:Int)=_;unfold sw;rw[aL hx,aD hx,aM _ hx,ab1 x (by omega),aU (by omega)];try rfl) (fun a=>by
  show sw xs xs (xs.length:Int)=_;unfold sw;rw[aA rfl];try rfl)
 rw[bS (fun _ a=>a)]at h;have h':TC xs xs 0=_:=h;rw[h'];try rfl
theorem Og(xs:List bA)(k:Int)(h1:1<=k)(h2:k+((cL bu xs:Nat):Int)<=1099511627776)(h3:wL aZ xs<=1099511627776):Xb xs k=some (((jX ju bu xs k,()),()),((k+((cL bu xs:Nat):Int),()),())):=by
 have hb:=bl;have Pl:wL aZ xs=xs.length+cL aZ xs:=rfl;unfold Xb
 have h:=aO (step:=fun(x:(List bA)×Int×Int×Unit)=>sG x.1 x.2.1 x.2.2.1) xs (fun i (a:List bA×Int)=>(a.1++xs.drop i,a.2,((i:Nat):Int),())) (fun _ x (a:List bA×Int)=>Sum.inl (a.1++[ju x a.2],a.2+((bu x:Nat):Int)))
  (fun a=> .inl (a.1,a.2,(xs.length:Int),())) (fun i a=>a.1.length=i/\1<=a.2/\a.2+((cL bu (xs.drop i):Nat):Int)<=1099511627776) (a0:=([],k)) ⟨rfl,h1,h2⟩ (fun i x a hx ha=>by
    have aV:=ah hx;have Fv:=gf aZ hx;obtain⟨hd,Cn,ux⟩:=ha;rw[ew _ hx]at ux;have hc:bu x=1+1+1:=rfl;have hw:aZ x=x.1.length:=rfl;have a0:ak .i64 a.2 1=a.2+1:=bd (by omega) (by omega);have a1:ak .i64 (a.2+1) 1=(a.2+1)+1:=bd (by omega) (by omega);have a2:ak .i64 ((a.2+1)+1) 1=((a.2+1)+1)+1:=bd (by omega) (by omega);show sG (a.1++xs.drop i) a.2 (i:Int)=_;unfold sG;have e:(((a.2+1)+1)+1)=a.2+((bu x:Nat):Int):=by omega
    simp only[iX hx,pc hd,fb hd,et hd,mc _ hd,aU (show i<=bQ by omega),oT,oB,a0,text (k:=a.2) (by omega) (by omega),a1,a2];rw[e,amH];try rfl) (fun i x a a' hx ha hf=>by
    obtain⟨hd,Cn,ux⟩:=ha;rw[ew _ hx]at ux;simp only[amx]at hf;subst hf;refine⟨by rw[amj,hd];try rfl,?_,?_⟩
    . show 1<=a.2+((bu x:Nat):Int);omega
    . show a.2+((bu x:Nat):Int)+_<=_;omega) (fun a ha=>by
    show sG (a.1++xs.drop xs.length) a.2 (xs.length:Int)=_;unfold sG;rw[an2,amZ,aA ha.1];try rfl)
 rw[qt ju bu]at h;have h':Tf xs k 0=_:=h;rw[h'];try rfl
theorem NK(xs:List bA)(k:Int)(h1:1<=k)(h2:k+((cL bu xs:Nat):Int)<=1099511627776)(h3:wL aZ xs<=1099511627776):WO (jX ju bu xs k) k=zR (k+((cL bu xs:Nat):Int)):=by
 have hb:=bl;have Pl:wL aZ xs=xs.length+cL aZ xs:=rfl;unfold WO
 have h:=aO (step:=fun(x:(List bA)×Int×Int×Unit)=>ud x.1 x.2.1 x.2.2.1) xs (fun i (a:Int)=>(jX ju bu xs k,a,((i:Nat):Int),())) (fun _ x (a:Int)=>Sum.inl (a+((bu x:Nat):Int)))
  (fun a=> .inl (jX ju bu xs k,a,(xs.length:Int),())) (fun i a=>a=k+((cL bu (xs.take i):Nat):Int)) (a0:=k) (by simp[cL]) (fun i x a hx ha=>by
    have aV:=ah hx;have Fv:=gf aZ hx;have hs:=ow bu xs i;have hy:=mI ju bu xs k i x hx;rw[ew _ hx]at hs;rw[<- ha]at hy;have hc:bu x=1+1+1:=rfl;have hw:aZ x=x.1.length:=rfl;have a0:ak .i64 a 1=a+1:=bd (by omega) (by omega);have a1:ak .i64 (a+1) 1=(a+1)+1:=bd (by omega) (by omega);have a2:ak .i64 ((a+1)+1) 1=((a+1)+1)+1:=bd (by omega) (by omega);show ud (jX ju bu xs k) a (i:Int)=_;unfold ud;have e:(((a+1)+1)+1)=a+((bu x:Nat):Int):=by omega
    simp only[aL hy,aD hy,aM _ hy,aU (show i<=bQ by omega),ju,oT,oF,oB,gF,bX,oN,a0,text (k:=a) (by omega) (by omega),a1,a2];rw[e]) (fun i x a a' hx ha hf=>by
    simp only[amx]at hf;rw[rj _ hx];omega) (fun a ha=>by
    show ud (jX ju bu xs k) a (xs.length:Int)=_;unfold ud;rw[aA (ph _ _ _ _)];try rfl)
 rw[pg bu]at h;have h':Qm (jX ju bu xs k) k 0=_:=h;rw[h'];try rfl
theorem DA(xs:List jD)(hb:xs.length<=bQ/\∀ y∈xs,zX y)(a:Int)(h0:0<=a)(h1:a<=1048576):PX xs a 0=some (if ((cL bz xs:Nat):Int)<=a then .inl (xs,a-(cL bz xs:Nat),(xs.length:Int),())else .inr (-1,())):=by
 have h:=aO (step:=fun(x:(List jD)×Int×Int×Unit)=>ua x.1 x.2.1 x.2.2.1) xs (fun i (a:Int)=>(xs,a,((i:Nat):Int),())) (fun _ x (a:Int)=>bif decide ((bz x:Int)<=a)then Sum.inl (a-bz x)else .inr (.inr (-1,())))
  (fun a=> .inl (xs,a,(xs.length:Int),())) (fun _ a=>0<=a/\a<=1048576) (a0:=a) ⟨h0,h1⟩ (fun i x a hx ha=>by
    have Ff:=amo hx;have aV:=ah hx;show ua xs a (i:Int)=_;unfold ua;rw[aL hx,aD hx,aM _ hx,adM x a ha.1 ha.2 (hb.2 x Ff),aU (by omega)];dsimp only[oT,oB];by_cases q:((bz x:Nat):Int)<=a
    . rw[cV q,aF (by omega),amk q];try rfl
    . rw[bL q,amF q];try rfl) (fun i x a a' hx ha hf=>by
    by_cases q:((bz x:Nat):Int)<=a
    . rw[amk q]at hf;simp only[oT,amx]at hf;omega
    . rw[amF q]at hf;simp at hf) (fun a ha=>by
    show ua xs a (xs.length:Int)=_;unfold ua;rw[aA rfl];try rfl)
 rw[zH _ _ _ _ _ _ h0]at h;refine ao9 h ?_;split <;> rfl
theorem LN(xs:List jD)(left:Int)(h0:0<=left)(h1:left<=1048576)(hb:xs.length<=bQ/\∀ y∈xs,zX y):VR xs left=zR (Ma left (wL bz xs)):=by
 have hw:wL bz xs=xs.length+cL bz xs:=rfl;unfold VR;dsimp only;rw[fW (s:=xs) (left:=left) (by omega) (by omega) hb.1];by_cases q:((xs.length:Nat):Int)<=left
 . rw[aF (by omega)];dsimp only[oF];rw[DA xs hb _ (by omega) (by omega)];by_cases q2:((cL bz xs:Nat):Int)<=left-(xs.length:Int)
   . rw[if_pos q2,cV (by omega)];dsimp only[oB,oL];have e:left-(xs.length:Int)-(cL bz xs:Nat)=left-((wL bz xs:Nat):Int):=by omega
     rw[e]
   . rw[if_neg q2,bL (by omega)];try rfl
 . rw[aR (by omega),bL (by omega)];try rfl
theorem Vs(xs:List jD)(h:wL bz xs<=1048576):Vw xs=zR xs:=by
 have hb:=bl;have hw:wL bz xs=xs.length+cL bz xs:=rfl;unfold Vw;dsimp only;rw[tG (by decide) (by omega),mK]
 have h:=aO (step:=fun(x:(List jD)×(List ch)×Int×Unit)=>uk x.1 x.2.1 x.2.2.1) xs (fun i (a:List jD)=>(xs,a++List.replicate (xs.length-i) d100,((i:Nat):Int),())) (fun _ x (a:List jD)=>Sum.inl (a++[x]))
  (fun a=> .inl (xs,a,(xs.length:Int),())) (fun i a=>a.length=i) (a0:=[]) rfl (fun i x a hx ha=>by
    have aV:=ah hx;have Fv:=gf bz hx;show uk xs (a++List.replicate (xs.length-i) d100) (i:Int)=_;unfold uk;obtain⟨q,hq⟩:∃ q,xs.length-i=q+1:=⟨xs.length-i-1,by omega⟩;have wb:xs.length-(i+1)=q:=by omega
    rw[hq,an6,aL hx,aD hx,aM _ hx,ab0 x (by omega)];dsimp only[oT,oB];simp only[fb ha,mc _ ha,et ha,aU (show i<=bQ by omega),wb,oT,amH,aoe]) (fun i x a a' hx ha hf=>by
    simp only[amx]at hf;rw[<- hf,amj,ha];try rfl) (fun a ha=>by
    show uk xs (a++List.replicate (xs.length-xs.length) d100) (xs.length:Int)=_;unfold uk;rw[aA rfl,an8,an7,amZ];try rfl)
 rw[mh]at h;have h':Pu xs (List.replicate xs.length d100) 0=_:=h;rw[h'];try rfl
theorem XN(xs:List ch)(h:wL bz xs<=1099511627776):VG xs xs=zR true:=by
 have hb:=bl;have hw:wL bz xs=xs.length+cL bz xs:=rfl;unfold VG;rw[bX];have h:=aT (step:=fun(x:(List ch)×(List ch)×Int×Unit)=>sS x.1 x.2.1 x.2.2.1) xs (fun i (_:Unit)=>(xs,xs,((i:Nat):Int),())) (fun _ x _=>Sum.inl ()) (fun _=> .inl (xs,xs,(xs.length:Int),())) (a0:=()) (fun i x a hx=>by
  have aV:=ah hx;have Fv:=gf bz hx;show sS xs xs (i:Int)=_;unfold sS;rw[aL hx,aD hx,aM _ hx,ac8 x (by omega),aU (by omega)];try rfl) (fun a=>by
  show sS xs xs (xs.length:Int)=_;unfold sS;rw[aA rfl];try rfl)
 rw[bS (fun _ a=>a)]at h;have h':Pv xs xs 0=_:=h;rw[h'];try rfl
theorem N2(xs:List ch)(k:Int)(h1:1<=k)(h2:k+((cL cP xs:Nat):Int)<=1099511627776)(h3:wL bz xs<=1099511627776):Wk xs k=some (((jX jo cP xs k,()),()),((k+((cL cP xs:Nat):Int),()),())):=by
 have hb:=bl;have Pl:wL bz xs=xs.length+cL bz xs:=rfl;unfold Wk
 have h:=aO (step:=fun(x:(List ch)×Int×Int×Unit)=>tE x.1 x.2.1 x.2.2.1) xs (fun i (a:List ch×Int)=>(a.1++xs.drop i,a.2,((i:Nat):Int),())) (fun _ x (a:List ch×Int)=>Sum.inl (a.1++[jo x a.2],a.2+((cP x:Nat):Int)))
  (fun a=> .inl (a.1,a.2,(xs.length:Int),())) (fun i a=>a.1.length=i/\1<=a.2/\a.2+((cL cP (xs.drop i):Nat):Int)<=1099511627776) (a0:=([],k)) ⟨rfl,h1,h2⟩ (fun i x a hx ha=>by
    have aV:=ah hx;have Fv:=gf bz hx;obtain⟨hd,Cn,ux⟩:=ha;rw[ew _ hx]at ux;have hc:cP x=1+1+cL (fun _=>1) x.2.2.1:=rfl;have hw:bz x=x.1.length+x.2.1.length+x.2.2.1.length:=rfl;have a0:ak .i64 a.2 1=a.2+1:=bd (by omega) (by omega);have a1:ak .i64 (a.2+1) 1=(a.2+1)+1:=bd (by omega) (by omega);have m2:=qZ x.2.2.1 ((a.2+1)+1) (by omega) (by omega);show tE (a.1++xs.drop i) a.2 (i:Int)=_;unfold tE;have e:(((a.2+1)+1)+((cL (fun _=>1) x.2.2.1:Nat):Int))=a.2+((cP x:Nat):Int):=by omega
    simp only[iX hx,pc hd,fb hd,et hd,mc _ hd,aU (show i<=bQ by omega),oT,oB,a0,text (k:=a.2) (by omega) (by omega),a1,text (k:=(a.2+1)) (by omega) (by omega),m2];rw[e,amH];try rfl) (fun i x a a' hx ha hf=>by
    obtain⟨hd,Cn,ux⟩:=ha;rw[ew _ hx]at ux;simp only[amx]at hf;subst hf;refine⟨by rw[amj,hd];try rfl,?_,?_⟩
    . show 1<=a.2+((cP x:Nat):Int);omega
    . show a.2+((cP x:Nat):Int)+_<=_;omega) (fun a ha=>by
    show tE (a.1++xs.drop xs.length) a.2 (xs.length:Int)=_;unfold tE;rw[an2,amZ,aA ha.1];try rfl)
 rw[qt jo cP]at h;have h':TT xs k 0=_:=h;rw[h'];try rfl
theorem Nf(xs:List ch)(k:Int)(h1:1<=k)(h2:k+((cL cP xs:Nat):Int)<=1099511627776)(h3:wL bz xs<=1099511627776):Wi (jX jo cP xs k) k=zR (k+((cL cP xs:Nat):Int)):=by
 have hb:=bl;have Pl:wL bz xs=xs.length+cL bz xs:=rfl;unfold Wi
 have h:=aO (step:=fun(x:(List ch)×Int×Int×Unit)=>sA x.1 x.2.1 x.2.2.1) xs (fun i (a:Int)=>(jX jo cP xs k,a,((i:Nat):Int),())) (fun _ x (a:Int)=>Sum.inl (a+((cP x:Nat):Int)))
  (fun a=> .inl (jX jo cP xs k,a,(xs.length:Int),())) (fun i a=>a=k+((cL cP (xs.take i):Nat):Int)) (a0:=k) (by simp[cL]) (fun i x a hx ha=>by
    have aV:=ah hx;have Fv:=gf bz hx;have hs:=ow cP xs i;have hy:=mI jo cP xs k i x hx;rw[ew _ hx]at hs;rw[<- ha]at hy;have hc:cP x=1+1+cL (fun _=>1) x.2.2.1:=rfl;have hw:bz x=x.1.length+x.2.1.length+x.2.2.1.length:=rfl;have a0:ak .i64 a 1=a+1:=bd (by omega) (by omega);have a1:ak .i64 (a+1) 1=(a+1)+1:=bd (by omega) (by omega);have m2:=C7 x.2.2.1 ((a+1)+1) (by omega) (by omega);have n2:aE (((a+1)+1)+((cL (fun _=>1) x.2.2.1:Nat):Int)) 0=false:=aF (by omega);show sA (jX jo cP xs k) a (i:Int)=_;unfold sA;have e:(((a+1)+1)+((cL (fun _=>1) x.2.2.1:Nat):Int))=a+((cP x:Nat):Int):=by omega
    simp only[aL hy,aD hy,aM _ hy,aU (show i<=bQ by omega),jo,oT,oF,oB,gF,bX,oN,a0,text (k:=a) (by omega) (by omega),a1,text (k:=(a+1)) (by omega) (by omega),m2,n2];rw[e]) (fun i x a a' hx ha hf=>by
    simp only[amx]at hf;rw[rj _ hx];omega) (fun a ha=>by
    show sA (jX jo cP xs k) a (xs.length:Int)=_;unfold sA;rw[aA (ph _ _ _ _)];try rfl)
 rw[pg cP]at h;have h':QA (jX jo cP xs k) k 0=_:=h;rw[h'];try rfl
def aI(x:gr):Nat:=x.1.length+wL aZ x.2.2.2.2.2.1+dD (x.2.2.2.2.2.2.1,x.2.2.2.2.2.2.2.1,x.2.2.2.2.2.2.2.2.1,x.2.2.2.2.2.2.2.2.2.1,())+wL bz x.2.2.2.2.2.2.2.2.2.2.1
def Bw(x:gr):Prop:=x.1.length<=bQ/\(x.2.2.2.2.2.1.length<=bQ/\∀ y∈x.2.2.2.2.2.1,BC y)/\Qt (x.2.2.2.2.2.2.1,x.2.2.2.2.2.2.2.1,x.2.2.2.2.2.2.2.2.1,x.2.2.2.2.2.2.2.2.2.1,())/\(x.2.2.2.2.2.2.2.2.2.2.1.length<=bQ/\∀ y∈x.2.2.2.2.2.2.2.2.2.2.1,zX y)
def Po(x:gr):Prop:=(∀ y∈x.2.2.2.2.2.2.2.2.2.2.1,PB y)
theorem ada(x:gr)(left:Int)(h0:0<=left)(h1:left<=1048576)(hb:Bw x):g73 x left=zR (Ma left (aI x)):=by
 have hw:aI x=x.1.length+wL aZ x.2.2.2.2.2.1+dD (x.2.2.2.2.2.2.1,x.2.2.2.2.2.2.2.1,x.2.2.2.2.2.2.2.2.1,x.2.2.2.2.2.2.2.2.2.1,())+wL bz x.2.2.2.2.2.2.2.2.2.2.1:=rfl;unfold g73
 try dsimp only
 by_cases q0:((x.1.length:Nat):Int)<=left;rotate_left
 . rw[fW (s:=x.1) (left:=left) (by omega) (by omega) hb.1];rw[aR (by omega),bL (by omega)];try rfl
 rw[fW (s:=x.1) (left:=left) (by omega) (by omega) hb.1];rw[aF (by omega)];dsimp only[oF];by_cases q1:((wL aZ x.2.2.2.2.2.1:Nat):Int)<=(left-((x.1.length:Nat):Int));rotate_left
 . rw[Lh x.2.2.2.2.2.1 (left-((x.1.length:Nat):Int)) (by omega) (by omega) (hb.2.1),bL q1,bL (by omega)];try rfl
 rw[Lh x.2.2.2.2.2.1 (left-((x.1.length:Nat):Int)) (by omega) (by omega) (hb.2.1),cV q1];dsimp only[oB];rw[aF (by omega)];dsimp only[oF];by_cases q2:((dD (x.2.2.2.2.2.2.1,x.2.2.2.2.2.2.2.1,x.2.2.2.2.2.2.2.2.1,x.2.2.2.2.2.2.2.2.2.1,()):Nat):Int)<=((left-((x.1.length:Nat):Int))-((wL aZ x.2.2.2.2.2.1:Nat):Int));rotate_left
 . rw[Rp (x.2.2.2.2.2.2.1,x.2.2.2.2.2.2.2.1,x.2.2.2.2.2.2.2.2.1,x.2.2.2.2.2.2.2.2.2.1,()) ((left-((x.1.length:Nat):Int))-((wL aZ x.2.2.2.2.2.1:Nat):Int)) (by omega) (by omega) (hb.2.2.1),bL q2,bL (by omega)];try rfl
 rw[Rp (x.2.2.2.2.2.2.1,x.2.2.2.2.2.2.2.1,x.2.2.2.2.2.2.2.2.1,x.2.2.2.2.2.2.2.2.2.1,()) ((left-((x.1.length:Nat):Int))-((wL aZ x.2.2.2.2.2.1:Nat):Int)) (by omega) (by omega) (hb.2.2.1),cV q2];dsimp only[oB];rw[aF (by omega)];dsimp only[oF];by_cases q3:((wL bz x.2.2.2.2.2.2.2.2.2.2.1:Nat):Int)<=(((left-((x.1.length:Nat):Int))-((wL aZ x.2.2.2.2.2.1:Nat):Int))-((dD (x.2.2.2.2.2.2.1,x.2.2.2.2.2.2.2.1,x.2.2.2.2.2.2.2.2.1,x.2.2.2.2.2.2.2.2.2.1,()):Nat):Int));rotate_left
 . rw[LN x.2.2.2.2.2.2.2.2.2.2.1 (((left-((x.1.length:Nat):Int))-((wL aZ x.2.2.2.2.2.1:Nat):Int))-((dD (x.2.2.2.2.2.2.1,x.2.2.2.2.2.2.2.1,x.2.2.2.2.2.2.2.2.1,x.2.2.2.2.2.2.2.2.2.1,()):Nat):Int)) (by omega) (by omega) (hb.2.2.2),bL q3,bL (by omega)];try rfl
 rw[LN x.2.2.2.2.2.2.2.2.2.2.1 (((left-((x.1.length:Nat):Int))-((wL aZ x.2.2.2.2.2.1:Nat):Int))-((dD (x.2.2.2.2.2.2.1,x.2.2.2.2.2.2.2.1,x.2.2.2.2.2.2.2.2.1,x.2.2.2.2.2.2.2.2.2.1,()):Nat):Int)) (by omega) (by omega) (hb.2.2.2),cV q3];dsimp only[oB];rw[aF (by omega)];dsimp only[oF];rw[cV (by omega)];have e:((((left-((x.1.length:Nat):Int))-((wL aZ x.2.2.2.2.2.1:Nat):Int))-((dD (x.2.2.2.2.2.2.1,x.2.2.2.2.2.2.2.1,x.2.2.2.2.2.2.2.2.1,x.2.2.2.2.2.2.2.2.2.1,()):Nat):Int))-((wL bz x.2.2.2.2.2.2.2.2.2.2.1:Nat):Int))=left-((aI x:Nat):Int):=by omega
 rw[e]
theorem acY(x:gr)(h:aI x<=1048576):g75 x=some ((),(x,())):=by have hw:aI x=x.1.length+wL aZ x.2.2.2.2.2.1+dD (x.2.2.2.2.2.2.1,x.2.2.2.2.2.2.2.1,x.2.2.2.2.2.2.2.2.1,x.2.2.2.2.2.2.2.2.2.1,())+wL bz x.2.2.2.2.2.2.2.2.2.2.1:=rfl;unfold g75;rw[VD x.2.2.2.2.2.1 (by omega)];rw[toRing (x.2.2.2.2.2.2.1,x.2.2.2.2.2.2.2.1,x.2.2.2.2.2.2.2.2.1,x.2.2.2.2.2.2.2.2.2.1,()) (by omega)];rw[Vs x.2.2.2.2.2.2.2.2.2.2.1 (by omega)];try rfl
theorem abG(x:gr)(h:aI x<=1099511627776):g76 x x=zR true:=by have hw:aI x=x.1.length+wL aZ x.2.2.2.2.2.1+dD (x.2.2.2.2.2.2.1,x.2.2.2.2.2.2.2.1,x.2.2.2.2.2.2.2.2.1,x.2.2.2.2.2.2.2.2.2.1,())+wL bz x.2.2.2.2.2.2.2.2.2.2.1:=rfl;unfold g76;simp only[bX,gF,oN,oF,oB,beq_self_eq_true,Yb x.2.2.2.2.2.1 (by omega),adQ (x.2.2.2.2.2.2.1,x.2.2.2.2.2.2.2.1,x.2.2.2.2.2.2.2.2.1,x.2.2.2.2.2.2.2.2.2.1,()) (by omega),XN x.2.2.2.2.2.2.2.2.2.2.1 (by omega)]
def cQ(x:gr):Nat:=1+1+1+1+1+cL bu x.2.2.2.2.2.1+1+1+cL (fun _=>1) x.2.2.2.2.2.2.2.2.1+cL (fun _=>1) x.2.2.2.2.2.2.2.2.2.1+cL cP x.2.2.2.2.2.2.2.2.2.2.1
noncomputable def jq(x:gr)(k:Int):gr:=(mt k,(k+1),((k+1)+1),(((k+1)+1)+1),((((k+1)+1)+1)+1),jX ju bu x.2.2.2.2.2.1 (((((k+1)+1)+1)+1)+1),((((((k+1)+1)+1)+1)+1)+((cL bu x.2.2.2.2.2.1:Nat):Int)),(((((((k+1)+1)+1)+1)+1)+((cL bu x.2.2.2.2.2.1:Nat):Int))+1),jX mkInt (fun _=>1) x.2.2.2.2.2.2.2.2.1 ((((((((k+1)+1)+1)+1)+1)+((cL bu x.2.2.2.2.2.1:Nat):Int))+1)+1),jX mkInt (fun _=>1) x.2.2.2.2.2.2.2.2.2.1 (((((((((k+1)+1)+1)+1)+1)+((cL bu x.2.2.2.2.2.1:Nat):Int))+1)+1)+((cL (fun _=>1) x.2.2.2.2.2.2.2.2.1:Nat):Int)),jX jo cP x.2.2.2.2.2.2.2.2.2.2.1 ((((((((((k+1)+1)+1)+1)+1)+((cL bu x.2.2.2.2.2.1:Nat):Int))+1)+1)+((cL (fun _=>1) x.2.2.2.2.2.2.2.2.1:Nat):Int))+((cL (fun _=>1) x.2.2.2.2.2.2.2.2.2.1:Nat):Int)),())
theorem OA(x:gr):cQ x<=100 * (aI x+1):=by
 have hw:aI x=x.1.length+wL aZ x.2.2.2.2.2.1+dD (x.2.2.2.2.2.2.1,x.2.2.2.2.2.2.2.1,x.2.2.2.2.2.2.2.2.1,x.2.2.2.2.2.2.2.2.2.1,())+wL bz x.2.2.2.2.2.2.2.2.2.2.1:=rfl;have hc:cQ x=1+1+1+1+1+cL bu x.2.2.2.2.2.1+1+1+cL (fun _=>1) x.2.2.2.2.2.2.2.2.1+cL (fun _=>1) x.2.2.2.2.2.2.2.2.2.1+cL cP x.2.2.2.2.2.2.2.2.2.2.1:=rfl;have hw6:dD (x.2.2.2.2.2.2.1,x.2.2.2.2.2.2.2.1,x.2.2.2.2.2.2.2.2.1,x.2.2.2.2.2.2.2.2.2.1,())=(x.2.2.2.2.2.2.1,x.2.2.2.2.2.2.2.1,x.2.2.2.2.2.2.2.2.1,x.2.2.2.2.2.2.2.2.2.1,()).2.2.1.length+(x.2.2.2.2.2.2.1,x.2.2.2.2.2.2.2.1,x.2.2.2.2.2.2.2.2.1,x.2.2.2.2.2.2.2.2.2.1,()).2.2.2.1.length:=rfl;have h5:=Dn Nw x.2.2.2.2.2.1;have h8:=mJ x.2.2.2.2.2.2.2.2.1;have h9:=mJ x.2.2.2.2.2.2.2.2.2.1;have E9:=Dn NS x.2.2.2.2.2.2.2.2.2.2.1
 try dsimp only at *
 omega
theorem EG(xs:List jG)(hb:xs.length<=bQ/\∀ y∈xs,Bw y)(a:Int)(h0:0<=a)(h1:a<=1048576):ZL xs a 0=some (if ((cL aI xs:Nat):Int)<=a then .inl (xs,a-(cL aI xs:Nat),(xs.length:Int),())else .inr (-1,())):=by
 have h:=aO (step:=fun(x:(List jG)×Int×Int×Unit)=>zI x.1 x.2.1 x.2.2.1) xs (fun i (a:Int)=>(xs,a,((i:Nat):Int),())) (fun _ x (a:Int)=>bif decide ((aI x:Int)<=a)then Sum.inl (a-aI x)else .inr (.inr (-1,())))
  (fun a=> .inl (xs,a,(xs.length:Int),())) (fun _ a=>0<=a/\a<=1048576) (a0:=a) ⟨h0,h1⟩ (fun i x a hx ha=>by
    have Ff:=amo hx;have aV:=ah hx;show zI xs a (i:Int)=_;unfold zI;rw[aL hx,aD hx,aM _ hx,ada x a ha.1 ha.2 (hb.2 x Ff),aU (by omega)];dsimp only[oT,oB];by_cases q:((aI x:Nat):Int)<=a
    . rw[cV q,aF (by omega),amk q];try rfl
    . rw[bL q,amF q];try rfl) (fun i x a a' hx ha hf=>by
    by_cases q:((aI x:Nat):Int)<=a
    . rw[amk q]at hf;simp only[oT,amx]at hf;omega
    . rw[amF q]at hf;simp at hf) (fun a ha=>by
    show zI xs a (xs.length:Int)=_;unfold zI;rw[aA rfl];try rfl)
 rw[zH _ _ _ _ _ _ h0]at h;refine ao9 h ?_;split <;> rfl
theorem KL(xs:List jG)(left:Int)(h0:0<=left)(h1:left<=1048576)(hb:xs.length<=bQ/\∀ y∈xs,Bw y):g34 xs left=zR (Ma left (wL aI xs)):=by
 have hw:wL aI xs=xs.length+cL aI xs:=rfl;unfold g34;dsimp only;rw[fW (s:=xs) (left:=left) (by omega) (by omega) hb.1];by_cases q:((xs.length:Nat):Int)<=left
 . rw[aF (by omega)];dsimp only[oF];rw[EG xs hb _ (by omega) (by omega)];by_cases q2:((cL aI xs:Nat):Int)<=left-(xs.length:Int)
   . rw[if_pos q2,cV (by omega)];dsimp only[oB,oL];have e:left-(xs.length:Int)-(cL aI xs:Nat)=left-((wL aI xs:Nat):Int):=by omega
     rw[e]
   . rw[if_neg q2,bL (by omega)];try rfl
 . rw[aR (by omega),bL (by omega)];try rfl
theorem X5(xs:List jG)(h:wL aI xs<=1048576):g36 xs=zR xs:=by
 have hb:=bl;have hw:wL aI xs=xs.length+cL aI xs:=rfl;unfold g36;dsimp only;rw[tG (by decide) (by omega),mK]
 have h:=aO (step:=fun(x:(List jG)×(List gr)×Int×Unit)=>Aa x.1 x.2.1 x.2.2.1) xs (fun i (a:List jG)=>(xs,a++List.replicate (xs.length-i) d94,((i:Nat):Int),())) (fun _ x (a:List jG)=>Sum.inl (a++[x]))
  (fun a=> .inl (xs,a,(xs.length:Int),())) (fun i a=>a.length=i) (a0:=[]) rfl (fun i x a hx ha=>by
    have aV:=ah hx;have Fv:=gf aI hx;show Aa xs (a++List.replicate (xs.length-i) d94) (i:Int)=_;unfold Aa;obtain⟨q,hq⟩:∃ q,xs.length-i=q+1:=⟨xs.length-i-1,by omega⟩;have wb:xs.length-(i+1)=q:=by omega
    rw[hq,an6,aL hx,aD hx,aM _ hx,acY x (by omega)];dsimp only[oT,oB];simp only[fb ha,mc _ ha,et ha,aU (show i<=bQ by omega),wb,oT,amH,aoe]) (fun i x a a' hx ha hf=>by
    simp only[amx]at hf;rw[<- hf,amj,ha];try rfl) (fun a ha=>by
    show Aa xs (a++List.replicate (xs.length-xs.length) d94) (xs.length:Int)=_;unfold Aa;rw[aA rfl,an8,an7,amZ];try rfl)
 rw[mh]at h;have h':aau xs (List.replicate xs.length d94) 0=_:=h;rw[h'];try rfl
theorem W7(xs:List gr)(h:wL aI xs<=1099511627776):g39 xs xs=zR true:=by
 have hb:=bl;have hw:wL aI xs=xs.length+cL aI xs:=rfl;unfold g39;rw[bX];have h:=aT (step:=fun(x:(List gr)×(List gr)×Int×Unit)=>za x.1 x.2.1 x.2.2.1) xs (fun i (_:Unit)=>(xs,xs,((i:Nat):Int),())) (fun _ x _=>Sum.inl ()) (fun _=> .inl (xs,xs,(xs.length:Int),())) (a0:=()) (fun i x a hx=>by
  have aV:=ah hx;have Fv:=gf aI hx;show za xs xs (i:Int)=_;unfold za;rw[aL hx,aD hx,aM _ hx,abG x (by omega),aU (by omega)];try rfl) (fun a=>by
  show za xs xs (xs.length:Int)=_;unfold za;rw[aA rfl];try rfl)
 rw[bS (fun _ a=>a)]at h;have h':YF xs xs 0=_:=h;rw[h'];try rfl
theorem Oz(xs:List gr)(k:Int)(h1:1<=k)(h2:k+((cL cQ xs:Nat):Int)<=1099511627776)(h3:wL aI xs<=1099511627776):g69 xs k=some (((jX jq cQ xs k,()),()),((k+((cL cQ xs:Nat):Int),()),())):=by
 have hb:=bl;have Pl:wL aI xs=xs.length+cL aI xs:=rfl;unfold g69
 have h:=aO (step:=fun(x:(List gr)×Int×Int×Unit)=>zA x.1 x.2.1 x.2.2.1) xs (fun i (a:List gr×Int)=>(a.1++xs.drop i,a.2,((i:Nat):Int),())) (fun _ x (a:List gr×Int)=>Sum.inl (a.1++[jq x a.2],a.2+((cQ x:Nat):Int)))
  (fun a=> .inl (a.1,a.2,(xs.length:Int),())) (fun i a=>a.1.length=i/\1<=a.2/\a.2+((cL cQ (xs.drop i):Nat):Int)<=1099511627776) (a0:=([],k)) ⟨rfl,h1,h2⟩ (fun i x a hx ha=>by
    have aV:=ah hx;have Fv:=gf aI hx;obtain⟨hd,Cn,ux⟩:=ha;rw[ew _ hx]at ux;have hc:cQ x=1+1+1+1+1+cL bu x.2.2.2.2.2.1+1+1+cL (fun _=>1) x.2.2.2.2.2.2.2.2.1+cL (fun _=>1) x.2.2.2.2.2.2.2.2.2.1+cL cP x.2.2.2.2.2.2.2.2.2.2.1:=rfl;have hw:aI x=x.1.length+wL aZ x.2.2.2.2.2.1+dD (x.2.2.2.2.2.2.1,x.2.2.2.2.2.2.2.1,x.2.2.2.2.2.2.2.2.1,x.2.2.2.2.2.2.2.2.2.1,())+wL bz x.2.2.2.2.2.2.2.2.2.2.1:=rfl;have hw6:dD (x.2.2.2.2.2.2.1,x.2.2.2.2.2.2.2.1,x.2.2.2.2.2.2.2.2.1,x.2.2.2.2.2.2.2.2.2.1,())=(x.2.2.2.2.2.2.1,x.2.2.2.2.2.2.2.1,x.2.2.2.2.2.2.2.2.1,x.2.2.2.2.2.2.2.2.2.1,()).2.2.1.length+(x.2.2.2.2.2.2.1,x.2.2.2.2.2.2.2.1,x.2.2.2.2.2.2.2.2.1,x.2.2.2.2.2.2.2.2.2.1,()).2.2.2.1.length:=rfl;have a0:ak .i64 a.2 1=a.2+1:=bd (by omega) (by omega);have a1:ak .i64 (a.2+1) 1=(a.2+1)+1:=bd (by omega) (by omega);have a2:ak .i64 ((a.2+1)+1) 1=((a.2+1)+1)+1:=bd (by omega) (by omega);have a3:ak .i64 (((a.2+1)+1)+1) 1=(((a.2+1)+1)+1)+1:=bd (by omega) (by omega);have a4:ak .i64 ((((a.2+1)+1)+1)+1) 1=((((a.2+1)+1)+1)+1)+1:=bd (by omega) (by omega);have m5:=Og x.2.2.2.2.2.1 (((((a.2+1)+1)+1)+1)+1) (by omega) (by omega) (by omega);have a6:ak .i64 ((((((a.2+1)+1)+1)+1)+1)+((cL bu x.2.2.2.2.2.1:Nat):Int)) 1=((((((a.2+1)+1)+1)+1)+1)+((cL bu x.2.2.2.2.2.1:Nat):Int))+1:=bd (by omega) (by omega);have a7:ak .i64 (((((((a.2+1)+1)+1)+1)+1)+((cL bu x.2.2.2.2.2.1:Nat):Int))+1) 1=(((((((a.2+1)+1)+1)+1)+1)+((cL bu x.2.2.2.2.2.1:Nat):Int))+1)+1:=bd (by omega) (by omega);have m8:=Bb x.2.2.2.2.2.2.2.2.1 ((((((((a.2+1)+1)+1)+1)+1)+((cL bu x.2.2.2.2.2.1:Nat):Int))+1)+1) (by omega) (by omega);have m9:=Bb x.2.2.2.2.2.2.2.2.2.1 (((((((((a.2+1)+1)+1)+1)+1)+((cL bu x.2.2.2.2.2.1:Nat):Int))+1)+1)+((cL (fun _=>1) x.2.2.2.2.2.2.2.2.1:Nat):Int)) (by omega) (by omega);have m10:=N2 x.2.2.2.2.2.2.2.2.2.2.1 ((((((((((a.2+1)+1)+1)+1)+1)+((cL bu x.2.2.2.2.2.1:Nat):Int))+1)+1)+((cL (fun _=>1) x.2.2.2.2.2.2.2.2.1:Nat):Int))+((cL (fun _=>1) x.2.2.2.2.2.2.2.2.2.1:Nat):Int)) (by omega) (by omega) (by omega);show zA (a.1++xs.drop i) a.2 (i:Int)=_;unfold zA;have e:(((((((((((a.2+1)+1)+1)+1)+1)+((cL bu x.2.2.2.2.2.1:Nat):Int))+1)+1)+((cL (fun _=>1) x.2.2.2.2.2.2.2.2.1:Nat):Int))+((cL (fun _=>1) x.2.2.2.2.2.2.2.2.2.1:Nat):Int))+((cL cP x.2.2.2.2.2.2.2.2.2.2.1:Nat):Int))=a.2+((cQ x:Nat):Int):=by omega
    simp only[iX hx,pc hd,fb hd,et hd,mc _ hd,aU (show i<=bQ by omega),oT,oB,a0,text (k:=a.2) (by omega) (by omega),a1,a2,a3,a4,m5,a6,a7,m8,m9,m10];rw[e,amH];try rfl) (fun i x a a' hx ha hf=>by
    obtain⟨hd,Cn,ux⟩:=ha;rw[ew _ hx]at ux;simp only[amx]at hf;subst hf;refine⟨by rw[amj,hd];try rfl,?_,?_⟩
    . show 1<=a.2+((cQ x:Nat):Int);omega
    . show a.2+((cQ x:Nat):Int)+_<=_;omega) (fun a ha=>by
    show zA (a.1++xs.drop xs.length) a.2 (xs.length:Int)=_;unfold zA;rw[an2,amZ,aA ha.1];try rfl)
 rw[qt jq cQ]at h;have h':aad xs k 0=_:=h;rw[h'];try rfl
theorem MA(xs:List gr)(k:Int)(h1:1<=k)(h2:k+((cL cQ xs:Nat):Int)<=1099511627776)(h3:wL aI xs<=1099511627776):g70 (jX jq cQ xs k) k=zR (k+((cL cQ xs:Nat):Int)):=by
 have hb:=bl;have Pl:wL aI xs=xs.length+cL aI xs:=rfl;unfold g70
 have h:=aO (step:=fun(x:(List gr)×Int×Int×Unit)=>AA x.1 x.2.1 x.2.2.1) xs (fun i (a:Int)=>(jX jq cQ xs k,a,((i:Nat):Int),())) (fun _ x (a:Int)=>Sum.inl (a+((cQ x:Nat):Int)))
  (fun a=> .inl (jX jq cQ xs k,a,(xs.length:Int),())) (fun i a=>a=k+((cL cQ (xs.take i):Nat):Int)) (a0:=k) (by simp[cL]) (fun i x a hx ha=>by
    have aV:=ah hx;have Fv:=gf aI hx;have hs:=ow cQ xs i;have hy:=mI jq cQ xs k i x hx;rw[ew _ hx]at hs;rw[<- ha]at hy;have hc:cQ x=1+1+1+1+1+cL bu x.2.2.2.2.2.1+1+1+cL (fun _=>1) x.2.2.2.2.2.2.2.2.1+cL (fun _=>1) x.2.2.2.2.2.2.2.2.2.1+cL cP x.2.2.2.2.2.2.2.2.2.2.1:=rfl;have hw:aI x=x.1.length+wL aZ x.2.2.2.2.2.1+dD (x.2.2.2.2.2.2.1,x.2.2.2.2.2.2.2.1,x.2.2.2.2.2.2.2.2.1,x.2.2.2.2.2.2.2.2.2.1,())+wL bz x.2.2.2.2.2.2.2.2.2.2.1:=rfl;have hw6:dD (x.2.2.2.2.2.2.1,x.2.2.2.2.2.2.2.1,x.2.2.2.2.2.2.2.2.1,x.2.2.2.2.2.2.2.2.2.1,())=(x.2.2.2.2.2.2.1,x.2.2.2.2.2.2.2.1,x.2.2.2.2.2.2.2.2.1,x.2.2.2.2.2.2.2.2.2.1,()).2.2.1.length+(x.2.2.2.2.2.2.1,x.2.2.2.2.2.2.2.1,x.2.2.2.2.2.2.2.2.1,x.2.2.2.2.2.2.2.2.2.1,()).2.2.2.1.length:=rfl;have a0:ak .i64 a 1=a+1:=bd (by omega) (by omega);have a1:ak .i64 (a+1) 1=(a+1)+1:=bd (by omega) (by omega);have a2:ak .i64 ((a+1)+1) 1=((a+1)+1)+1:=bd (by omega) (by omega);have a3:ak .i64 (((a+1)+1)+1) 1=(((a+1)+1)+1)+1:=bd (by omega) (by omega);have a4:ak .i64 ((((a+1)+1)+1)+1) 1=((((a+1)+1)+1)+1)+1:=bd (by omega) (by omega);have m5:=NK x.2.2.2.2.2.1 (((((a+1)+1)+1)+1)+1) (by omega) (by omega) (by omega);have n5:aE ((((((a+1)+1)+1)+1)+1)+((cL bu x.2.2.2.2.2.1:Nat):Int)) 0=false:=aF (by omega);have a6:ak .i64 ((((((a+1)+1)+1)+1)+1)+((cL bu x.2.2.2.2.2.1:Nat):Int)) 1=((((((a+1)+1)+1)+1)+1)+((cL bu x.2.2.2.2.2.1:Nat):Int))+1:=bd (by omega) (by omega);have a7:ak .i64 (((((((a+1)+1)+1)+1)+1)+((cL bu x.2.2.2.2.2.1:Nat):Int))+1) 1=(((((((a+1)+1)+1)+1)+1)+((cL bu x.2.2.2.2.2.1:Nat):Int))+1)+1:=bd (by omega) (by omega);have m8:=HK x.2.2.2.2.2.2.2.2.1 ((((((((a+1)+1)+1)+1)+1)+((cL bu x.2.2.2.2.2.1:Nat):Int))+1)+1) (by omega) (by omega);have n8:aE (((((((((a+1)+1)+1)+1)+1)+((cL bu x.2.2.2.2.2.1:Nat):Int))+1)+1)+((cL (fun _=>1) x.2.2.2.2.2.2.2.2.1:Nat):Int)) 0=false:=aF (by omega);have m9:=HK x.2.2.2.2.2.2.2.2.2.1 (((((((((a+1)+1)+1)+1)+1)+((cL bu x.2.2.2.2.2.1:Nat):Int))+1)+1)+((cL (fun _=>1) x.2.2.2.2.2.2.2.2.1:Nat):Int)) (by omega) (by omega);have n9:aE ((((((((((a+1)+1)+1)+1)+1)+((cL bu x.2.2.2.2.2.1:Nat):Int))+1)+1)+((cL (fun _=>1) x.2.2.2.2.2.2.2.2.1:Nat):Int))+((cL (fun _=>1) x.2.2.2.2.2.2.2.2.2.1:Nat):Int)) 0=false:=aF (by omega);have m10:=Nf x.2.2.2.2.2.2.2.2.2.2.1 ((((((((((a+1)+1)+1)+1)+1)+((cL bu x.2.2.2.2.2.1:Nat):Int))+1)+1)+((cL (fun _=>1) x.2.2.2.2.2.2.2.2.1:Nat):Int))+((cL (fun _=>1) x.2.2.2.2.2.2.2.2.2.1:Nat):Int)) (by omega) (by omega) (by omega);have n10:aE (((((((((((a+1)+1)+1)+1)+1)+((cL bu x.2.2.2.2.2.1:Nat):Int))+1)+1)+((cL (fun _=>1) x.2.2.2.2.2.2.2.2.1:Nat):Int))+((cL (fun _=>1) x.2.2.2.2.2.2.2.2.2.1:Nat):Int))+((cL cP x.2.2.2.2.2.2.2.2.2.2.1:Nat):Int)) 0=false:=aF (by omega);show AA (jX jq cQ xs k) a (i:Int)=_;unfold AA;have e:(((((((((((a+1)+1)+1)+1)+1)+((cL bu x.2.2.2.2.2.1:Nat):Int))+1)+1)+((cL (fun _=>1) x.2.2.2.2.2.2.2.2.1:Nat):Int))+((cL (fun _=>1) x.2.2.2.2.2.2.2.2.2.1:Nat):Int))+((cL cP x.2.2.2.2.2.2.2.2.2.2.1:Nat):Int))=a+((cQ x:Nat):Int):=by omega
    simp only[aL hy,aD hy,aM _ hy,aU (show i<=bQ by omega),jq,oT,oF,oB,gF,bX,oN,a0,text (k:=a) (by omega) (by omega),a1,a2,a3,a4,m5,n5,a6,a7,m8,n8,m9,n9,m10,n10];rw[e]) (fun i x a a' hx ha hf=>by
    simp only[amx]at hf;rw[rj _ hx];omega) (fun a ha=>by
    show AA (jX jq cQ xs k) a (xs.length:Int)=_;unfold AA;rw[aA (ph _ _ _ _)];try rfl)
 rw[pg cQ]at h;have h':ZC (jX jq cQ xs k) k 0=_:=h;rw[h'];try rfl
def lf(x:((List jG)×Unit)):Nat:=wL aI x.1
def IX(x:((List jG)×Unit)):Prop:=(x.1.length<=bQ/\∀ y∈x.1,Bw y)
def P4(x:((List jG)×Unit)):Prop:=(∀ y∈x.1,Po y)
theorem abY(x:((List jG)×Unit))(left:Int)(h0:0<=left)(h1:left<=1048576)(hb:IX x):g7 x left=zR (Ma left (lf x)):=by
 have hw:lf x=wL aI x.1:=rfl;unfold g7
 try dsimp only
 by_cases q0:((wL aI x.1:Nat):Int)<=left;rotate_left
 . rw[KL x.1 left (by omega) (by omega) (hb),bL q0,bL (by omega)];try rfl
 rw[KL x.1 left (by omega) (by omega) (hb),cV q0];dsimp only[oB];rw[aF (by omega)];dsimp only[oF];rw[cV (by omega)];have e:(left-((wL aI x.1:Nat):Int))=left-((lf x:Nat):Int):=by omega
 rw[e]
theorem abU(x:((List jG)×Unit))(h:lf x<=1048576):g10 x=some ((),(x,())):=by have hw:lf x=wL aI x.1:=rfl;unfold g10;rw[X5 x.1 (by omega)];try rfl
theorem P2(x:((List jG)×Unit))(h:lf x<=1099511627776):g13 x x=zR true:=by have hw:lf x=wL aI x.1:=rfl;unfold g13;simp only[bX,gF,oN,oF,oB,beq_self_eq_true,W7 x.1 (by omega)]
def kV(x:((List jG)×Unit)):Nat:=cL cQ x.1
noncomputable def Jb(x:((List jG)×Unit))(k:Int):((List jG)×Unit):=(jX jq cQ x.1 k,())
theorem Gr(x:((List jG)×Unit)):kV x<=100 * lf x:=by have hw:lf x=wL aI x.1:=rfl;have hc:kV x=cL cQ x.1:=rfl;have h0:=Dn OA x.1;omega
theorem FV(x:((List jG)×Unit))(k:Int)(h1:1<=k)(h2:k+((kV x:Nat):Int)<=1099511627776)(h3:lf x<=1099511627776):g19 x k=some ((Jb x k,()),((k+((kV x:Nat):Int),()),())):=by
 have hb:=bl;have hw:lf x=wL aI x.1:=rfl;have hc:kV x=cL cQ x.1:=rfl;have m0:=Oz x.1 k (by omega) (by omega) (by omega);unfold g19;have e:(k+((cL cQ x.1:Nat):Int))=k+((kV x:Nat):Int):=by omega
 rw[m0];dsimp only[oB,oF];rw[e]
 try rfl
theorem Sp(x:((List jG)×Unit))(k:Int)(h1:1<=k)(h2:k+((kV x:Nat):Int)<=1099511627776)(h3:lf x<=1099511627776):g21 (Jb x k) k=zR (k+((kV x:Nat):Int)):=by
 have hb:=bl;have hw:lf x=wL aI x.1:=rfl;have hc:kV x=cL cQ x.1:=rfl;have m0:=MA x.1 k (by omega) (by omega) (by omega);have n0:aE (k+((cL cQ x.1:Nat):Int)) 0=false:=aF (by omega);unfold g21;have e:(k+((cL cQ x.1:Nat):Int))=k+((kV x:Nat):Int):=by omega
 unfold Jb;dsimp only;rw[m0];dsimp only[oB,oF];rw[n0];dsimp only[oB,oF];rw[e]
def dn(x:vZ):Nat:=x.2.1.length+x.2.2.1.length
def Bz(x:vZ):Prop:=x.2.1.length<=bQ/\x.2.2.1.length<=bQ
def IN(x:vZ):Prop:=(∀ y∈x.2.1,pT .u8 y.1)/\(∀ y∈x.2.2.1,pT .u8 y.1)
theorem acE(x:vZ)(left:Int)(h0:0<=left)(h1:left<=1048576)(hb:Bz x):g35 x left=zR (Ma left (dn x)):=by
 have hw:dn x=x.2.1.length+x.2.2.1.length:=rfl;unfold g35
 try dsimp only
 by_cases q0:((x.2.1.length:Nat):Int)<=left;rotate_left
 . rw[q9 x.2.1 left (by omega) (by omega) (hb.1),bL q0,bL (by omega)];try rfl
 rw[q9 x.2.1 left (by omega) (by omega) (hb.1),cV q0];dsimp only[oB];rw[aF (by omega)];dsimp only[oF];by_cases q1:((x.2.2.1.length:Nat):Int)<=(left-((x.2.1.length:Nat):Int));rotate_left
 . rw[q9 x.2.2.1 (left-((x.2.1.length:Nat):Int)) (by omega) (by omega) (hb.2),bL q1,bL (by omega)];try rfl
 rw[q9 x.2.2.1 (left-((x.2.1.length:Nat):Int)) (by omega) (by omega) (hb.2),cV q1];dsimp only[oB];rw[aF (by omega)];dsimp only[oF];rw[cV (by omega)];have e:((left-((x.2.1.length:Nat):Int))-((x.2.2.1.length:Nat):Int))=left-((dn x:Nat):Int):=by omega
 rw[e]
theorem abv(x:vZ)(h:dn x<=1048576):g37 x=some ((),(x,())):=by have hw:dn x=x.2.1.length+x.2.2.1.length:=rfl;unfold g37;rw[D7 x.2.1 (by omega)];rw[D7 x.2.2.1 (by omega)];try rfl
theorem adJ(x:vZ)(h:dn x<=1099511627776):g40 x x=zR true:=by have hw:dn x=x.2.1.length+x.2.2.1.length:=rfl;unfold g40;simp only[bX,gF,oN,oF,oB,beq_self_eq_true,yG x.2.1 (by omega),yG x.2.2.1 (by omega)]
def j7(x:vZ):Nat:=1+cL (fun _=>1) x.2.1+cL (fun _=>1) x.2.2.1
noncomputable def Dx(x:vZ)(k:Int):vZ:=(k,jX jJ (fun _=>1) x.2.1 (k+1),jX jJ (fun _=>1) x.2.2.1 ((k+1)+((cL (fun _=>1) x.2.1:Nat):Int)),())
theorem MK(x:vZ):j7 x<=100 * (dn x+1):=by
 have hw:dn x=x.2.1.length+x.2.2.1.length:=rfl;have hc:j7 x=1+cL (fun _=>1) x.2.1+cL (fun _=>1) x.2.2.1:=rfl;have h1:=mJ x.2.1;have h2:=mJ x.2.2.1
 try dsimp only at *
 omega
def gM(x:rV):Nat:=x.1.length
def cM(x:rV):Nat:=cL (fun _=>1) x.1
noncomputable def ie(x:rV)(k:Int):rV:=(jX jJ (fun _=>1) x.1 k,())
theorem JS(x:rV):cM x<=100 * (gM x+1):=by
 have hw:gM x=x.1.length:=rfl;have hc:cM x=cL (fun _=>1) x.1:=rfl;have h0:=mJ x.1
 try dsimp only at *
 omega
theorem QS(xs:List rV)(h:wL gM xs<=1099511627776):g25 xs xs=zR true:=by
 have hb:=bl;have hw:wL gM xs=xs.length+cL gM xs:=rfl;unfold g25;rw[bX];have h:=aT (step:=fun(x:(List rV)×(List rV)×Int×Unit)=>Bn x.1 x.2.1 x.2.2.1) xs (fun i (_:Unit)=>(xs,xs,((i:Nat):Int),())) (fun _ x _=>Sum.inl ()) (fun _=> .inl (xs,xs,(xs.length:Int),())) (a0:=()) (fun i x a hx=>by
  have aV:=ah hx;have Fv:=gf gM hx;show Bn xs xs (i:Int)=_;unfold Bn;rw[aL hx,aD hx,aM _ hx,yG x.1 (by have e:gM x=x.1.length:=rfl;omega),aU (by omega)];try rfl) (fun a=>by
  show Bn xs xs (xs.length:Int)=_;unfold Bn;rw[aA rfl];try rfl)
 rw[bS (fun _ a=>a)]at h;have h':ZG xs xs 0=_:=h;rw[h'];try rfl
theorem I6(xs:List rV)(k:Int)(h1:1<=k)(h2:k+((cL cM xs:Nat):Int)<=1099511627776)(h3:wL gM xs<=1099511627776):g27 xs k=some (((jX ie cM xs k,()),()),((k+((cL cM xs:Nat):Int),()),())):=by
 have hb:=bl;have Pl:wL gM xs=xs.length+cL gM xs:=rfl;unfold g27
 have h:=aO (step:=fun(x:(List rV)×Int×Int×Unit)=>A7 x.1 x.2.1 x.2.2.1) xs (fun i (a:List rV×Int)=>(a.1++xs.drop i,a.2,((i:Nat):Int),())) (fun _ x (a:List rV×Int)=>Sum.inl (a.1++[ie x a.2],a.2+((cM x:Nat):Int)))
  (fun a=> .inl (a.1,a.2,(xs.length:Int),())) (fun i a=>a.1.length=i/\1<=a.2/\a.2+((cL cM (xs.drop i):Nat):Int)<=1099511627776) (a0:=([],k)) ⟨rfl,h1,h2⟩ (fun i x a hx ha=>by
    have aV:=ah hx;have Fv:=gf gM hx;obtain⟨hd,Cn,ux⟩:=ha;rw[ew _ hx]at ux;have hc:cM x=cL (fun _=>1) x.1:=rfl;have hw:gM x=x.1.length:=rfl;have m0:=qZ x.1 a.2 (by omega) (by omega);show A7 (a.1++xs.drop i) a.2 (i:Int)=_;unfold A7;have e:(a.2+((cL (fun _=>1) x.1:Nat):Int))=a.2+((cM x:Nat):Int):=by omega
    simp only[iX hx,pc hd,fb hd,et hd,mc _ hd,aU (show i<=bQ by omega),oT,oB,m0];rw[e,amH];try rfl) (fun i x a a' hx ha hf=>by
    obtain⟨hd,Cn,ux⟩:=ha;rw[ew _ hx]at ux;simp only[amx]at hf;subst hf;refine⟨by rw[amj,hd];try rfl,?_,?_⟩
    . show 1<=a.2+((cM x:Nat):Int);omega
    . show a.2+((cM x:Nat):Int)+_<=_;omega) (fun a ha=>by
    show A7 (a.1++xs.drop xs.length) a.2 (xs.length:Int)=_;unfold A7;rw[an2,amZ,aA ha.1];try rfl)
 rw[qt ie cM]at h;have h':aat xs k 0=_:=h;rw[h'];try rfl
theorem JR(xs:List rV)(k:Int)(h1:1<=k)(h2:k+((cL cM xs:Nat):Int)<=1099511627776)(h3:wL gM xs<=1099511627776):g28 (jX ie cM xs k) k=zR (k+((cL cM xs:Nat):Int)):=by
 have hb:=bl;have Pl:wL gM xs=xs.length+cL gM xs:=rfl;unfold g28
 have h:=aO (step:=fun(x:(List rV)×Int×Int×Unit)=>Bs x.1 x.2.1 x.2.2.1) xs (fun i (a:Int)=>(jX ie cM xs k,a,((i:Nat):Int),())) (fun _ x (a:Int)=>Sum.inl (a+((cM x:Nat):Int)))
  (fun a=> .inl (jX ie cM xs k,a,(xs.length:Int),())) (fun i a=>a=k+((cL cM (xs.take i):Nat):Int)) (a0:=k) (by simp[cL]) (fun i x a hx ha=>by
    have aV:=ah hx;have Fv:=gf gM hx;have hs:=ow cM xs i;have hy:=mI ie cM xs k i x hx;rw[ew _ hx]at hs;rw[<- ha]at hy;have hc:cM x=cL (fun _=>1) x.1:=rfl;have hw:gM x=x.1.length:=rfl;have m0:=C7 x.1 a (by omega) (by omega);have n0:aE (a+((cL (fun _=>1) x.1:Nat):Int)) 0=false:=aF (by omega);show Bs (jX ie cM xs k) a (i:Int)=_;unfold Bs;have e:(a+((cL (fun _=>1) x.1:Nat):Int))=a+((cM x:Nat):Int):=by omega
    simp only[aL hy,aD hy,aM _ hy,aU (show i<=bQ by omega),ie,oT,oF,oB,gF,bX,oN,m0,n0];rw[e]) (fun i x a a' hx ha hf=>by
    simp only[amx]at hf;rw[rj _ hx];omega) (fun a ha=>by
    show Bs (jX ie cM xs k) a (xs.length:Int)=_;unfold Bs;rw[aA (ph _ _ _ _)];try rfl)
 rw[pg cM]at h;have h':ZS (jX ie cM xs k) k 0=_:=h;rw[h'];try rfl
theorem DU(xs:List vZ)(hb:xs.length<=bQ/\∀ y∈xs,Bz y)(a:Int)(h0:0<=a)(h1:a<=1048576):agt xs a 0=some (if ((cL dn xs:Nat):Int)<=a then .inl (xs,a-(cL dn xs:Nat),(xs.length:Int),())else .inr (-1,())):=by
 have h:=aO (step:=fun(x:(List vZ)×Int×Int×Unit)=>JM x.1 x.2.1 x.2.2.1) xs (fun i (a:Int)=>(xs,a,((i:Nat):Int),())) (fun _ x (a:Int)=>bif decide ((dn x:Int)<=a)then Sum.inl (a-dn x)else .inr (.inr (-1,())))
  (fun a=> .inl (xs,a,(xs.length:Int),())) (fun _ a=>0<=a/\a<=1048576) (a0:=a) ⟨h0,h1⟩ (fun i x a hx ha=>by
    have Ff:=amo hx;have aV:=ah hx;show JM xs a (i:Int)=_;unfold JM;rw[aL hx,aD hx,aM _ hx,acE x a ha.1 ha.2 (hb.2 x Ff),aU (by omega)];dsimp only[oT,oB];by_cases q:((dn x:Nat):Int)<=a
    . rw[cV q,aF (by omega),amk q];try rfl
    . rw[bL q,amF q];try rfl) (fun i x a a' hx ha hf=>by
    by_cases q:((dn x:Nat):Int)<=a
    . rw[amk q]at hf;simp only[oT,amx]at hf;omega
    . rw[amF q]at hf;simp at hf) (fun a ha=>by
    show JM xs a (xs.length:Int)=_;unfold JM;rw[aA rfl];try rfl)
 rw[zH _ _ _ _ _ _ h0]at h;refine ao9 h ?_;split <;> rfl
theorem Xg(xs:List vZ)(left:Int)(h0:0<=left)(h1:left<=1048576)(hb:xs.length<=bQ/\∀ y∈xs,Bz y):g8 xs left=zR (Ma left (wL dn xs)):=by
 have hw:wL dn xs=xs.length+cL dn xs:=rfl;unfold g8;dsimp only;rw[fW (s:=xs) (left:=left) (by omega) (by omega) hb.1];by_cases q:((xs.length:Nat):Int)<=left
 . rw[aF (by omega)];dsimp only[oF];rw[DU xs hb _ (by omega) (by omega)];by_cases q2:((cL dn xs:Nat):Int)<=left-(xs.length:Int)
   . rw[if_pos q2,cV (by omega)];dsimp only[oB,oL];have e:left-(xs.length:Int)-(cL dn xs:Nat)=left-((wL dn xs:Nat):Int):=by omega
     rw[e]
   . rw[if_neg q2,bL (by omega)];try rfl
 . rw[aR (by omega),bL (by omega)];try rfl
theorem XY(xs:List vZ)(h:wL dn xs<=1048576):g11 xs=zR xs:=by
 have hb:=bl;have hw:wL dn xs=xs.length+cL dn xs:=rfl;unfold g11;dsimp only;rw[tG (by decide) (by omega),mK]
 have h:=aO (step:=fun(x:(List vZ)×(List xK)×Int×Unit)=>Bo x.1 x.2.1 x.2.2.1) xs (fun i (a:List vZ)=>(xs,a++List.replicate (xs.length-i) d62,((i:Nat):Int),())) (fun _ x (a:List vZ)=>Sum.inl (a++[x]))
  (fun a=> .inl (xs,a,(xs.length:Int),())) (fun i a=>a.length=i) (a0:=[]) rfl (fun i x a hx ha=>by
    have aV:=ah hx;have Fv:=gf dn hx;show Bo xs (a++List.replicate (xs.length-i) d62) (i:Int)=_;unfold Bo;obtain⟨q,hq⟩:∃ q,xs.length-i=q+1:=⟨xs.length-i-1,by omega⟩;have wb:xs.length-(i+1)=q:=by omega
    rw[hq,an6,aL hx,aD hx,aM _ hx,abv x (by omega)];dsimp only[oT,oB];simp only[fb ha,mc _ ha,et ha,aU (show i<=bQ by omega),wb,oT,amH,aoe]) (fun i x a a' hx ha hf=>by
    simp only[amx]at hf;rw[<- hf,amj,ha];try rfl) (fun a ha=>by
    show Bo xs (a++List.replicate (xs.length-xs.length) d62) (xs.length:Int)=_;unfold Bo;rw[aA rfl,an8,an7,amZ];try rfl)
 rw[mh]at h;have h':YV xs (List.replicate xs.length d62) 0=_:=h;rw[h'];try rfl
theorem Xi(xs:List xK)(h:wL dn xs<=1099511627776):g14 xs xs=zR true:=by
 have hb:=bl;have hw:wL dn xs=xs.length+cL dn xs:=rfl;unfold g14;rw[bX];have h:=aT (step:=fun(x:(List xK)×(List xK)×Int×Unit)=>Br x.1 x.2.1 x.2.2.1) xs (fun i (_:Unit)=>(xs,xs,((i:Nat):Int),())) (fun _ x _=>Sum.inl ()) (fun _=> .inl (xs,xs,(xs.length:Int),())) (a0:=()) (fun i x a hx=>by
  have aV:=ah hx;have Fv:=gf dn hx;show Br xs xs (i:Int)=_;unfold Br;rw[aL hx,aD hx,aM _ hx,adJ x (by omega),aU (by omega)];try rfl) (fun a=>by
  show Br xs xs (xs.length:Int)=_;unfold Br;rw[aA rfl];try rfl)
 rw[bS (fun _ a=>a)]at h;have h':ZJ xs xs 0=_:=h;rw[h'];try rfl
theorem Ow(xs:List xK)(k:Int)(h1:1<=k)(h2:k+((cL j7 xs:Nat):Int)<=1099511627776)(h3:wL dn xs<=1099511627776):g26 xs k=some (((jX Dx j7 xs k,()),()),((k+((cL j7 xs:Nat):Int),()),())):=by
 have hb:=bl;have Pl:wL dn xs=xs.length+cL dn xs:=rfl;unfold g26
 have h:=aO (step:=fun(x:(List xK)×Int×Int×Unit)=>Ag x.1 x.2.1 x.2.2.1) xs (fun i (a:List xK×Int)=>(a.1++xs.drop i,a.2,((i:Nat):Int),())) (fun _ x (a:List xK×Int)=>Sum.inl (a.1++[Dx x a.2],a.2+((j7 x:Nat):Int)))
  (fun a=> .inl (a.1,a.2,(xs.length:Int),())) (fun i a=>a.1.length=i/\1<=a.2/\a.2+((cL j7 (xs.drop i):Nat):Int)<=1099511627776) (a0:=([],k)) ⟨rfl,h1,h2⟩ (fun i x a hx ha=>by
    have aV:=ah hx;have Fv:=gf dn hx;obtain⟨hd,Cn,ux⟩:=ha;rw[ew _ hx]at ux;have hc:j7 x=1+cL (fun _=>1) x.2.1+cL (fun _=>1) x.2.2.1:=rfl;have hw:dn x=x.2.1.length+x.2.2.1.length:=rfl;have a0:ak .i64 a.2 1=a.2+1:=bd (by omega) (by omega);have m1:=qZ x.2.1 (a.2+1) (by omega) (by omega);have m2:=qZ x.2.2.1 ((a.2+1)+((cL (fun _=>1) x.2.1:Nat):Int)) (by omega) (by omega);show Ag (a.1++xs.drop i) a.2 (i:Int)=_;unfold Ag;have e:(((a.2+1)+((cL (fun _=>1) x.2.1:Nat):Int))+((cL (fun _=>1) x.2.2.1:Nat):Int))=a.2+((j7 x:Nat):Int):=by omega
    simp only[iX hx,pc hd,fb hd,et hd,mc _ hd,aU (show i<=bQ by omega),oT,oB,a0,m1,m2];rw[e,amH];try rfl) (fun i x a a' hx ha hf=>by
    obtain⟨hd,Cn,ux⟩:=ha;rw[ew _ hx]at ux;simp only[amx]at hf;subst hf;refine⟨by rw[amj,hd];try rfl,?_,?_⟩
    . show 1<=a.2+((j7 x:Nat):Int);omega
    . show a.2+((j7 x:Nat):Int)+_<=_;omega) (fun a ha=>by
    show Ag (a.1++xs.drop xs.length) a.2 (xs.length:Int)=_;unfold Ag;rw[an2,amZ,aA ha.1];try rfl)
 rw[qt Dx j7]at h;have h':aaI xs k 0=_:=h;rw[h'];try rfl
end Go.Av
