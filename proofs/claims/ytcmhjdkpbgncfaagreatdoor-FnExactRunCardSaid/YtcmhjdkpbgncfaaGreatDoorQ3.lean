/- FnExactRun, a part. -/
import Derived.Test.YtcmhjdkpbgncfaaGreatDoorP1
import Derived.Test.YtcmhjdkpbgncfaaGreatDoorFw4
set_option maxRecDepth 100000
set_option maxHeartbeats 4000000
namespace Go.Av
abbrev aO:=S8×Int×Int×Unit
abbrev dj:=S8×S8×List (Int×Unit)×Unit
abbrev gu:=Int×Int×List (Int×Unit)×List (Int×Unit)×Unit
def da(a lo hi:Int):Bool:=cond (ck lo a) (ck a hi) false
theorem bB{a lo hi:Int}:da a lo hi=true↔lo<=a/\a<=hi:=by unfold da ck;by_cases h:lo<=a <;> simp[h]
theorem oI(a lo hi:Int):vf a lo hi=zR (da a lo hi):=rfl
theorem lC(a lo hi:Int):jc a lo hi=zR (da a lo hi):=rfl
def bY(a:Int):Bool:=da a 0 4611686018427387904
theorem pf(a:Int):EY a=zR (bY a):=rfl
theorem ED(a:Int):QP a=zR (bY a):=rfl
def bh(a:Int):Bool:=da a 0 1000000000
theorem iO(a:Int):Ls a=zR (bh a):=rfl
theorem iP(a:Int):Og a=zR (bh a):=rfl
def fL(x:UInt8):Bool:=cond (aE (x.toNat:Int) 48) false (!(aE 57 (x.toNat:Int)))
theorem di{x:UInt8}:fL x=true↔48<=x.toNat/\x.toNat<=57:=by
 unfold fL aE;by_cases h:(x.toNat:Int)<48
 . simp[h]; omega
 . by_cases h2:(57:Int)<x.toNat
   . simp[h,h2]; omega
   . simp[h,h2]; omega
def aH(s:S8):Bool:=cond (s.all fL) (aE 0 (ae s)) false
theorem gi(s:S8)(hs:s.length<=bQ):Ih s=zR (aH s):=by
 unfold Ih;have h:=aS (step:=Az BB) s (fun i (_:Unit)=>(s,((i:Nat):Int),())) (fun _ x _=>bif fL x then Sum.inl ()else .inr (.inr (false,()))) (fun _=> .inl (s,(s.length:Int),())) (a0:=()) (fun i x a hx=>by
  have aV:=ah hx;show BB s (i:Int)=_;unfold BB fL;rw[aL hx,aD hx,fX hx,aU (by omega)];dsimp only[oT];cases aE (x.toNat:Int) 48 <;> cases aE 57 (x.toNat:Int) <;> rfl) (fun a=>by
  show BB s (s.length:Int)=_;unfold BB;rw[aA rfl];try rfl)
 rw[j9]at h;have h':YE s 0=_:=h;rw[h'];unfold aH;cases s.all fL <;> rfl
theorem iZ(s:S8)(hs:s.length<=bQ):wK s=zR (aH s):=by
 unfold wK;have h:=aS (step:=fE tj) s (fun i (_:Unit)=>(s,ae s,((i:Nat):Int),())) (fun _ x _=>bif fL x then Sum.inl ()else .inr (.inr (false,()))) (fun _=> .inl (s,ae s,(s.length:Int),())) (a0:=()) (fun i x a hx=>by
  have aV:=ah hx;show tj s (ae s) (i:Int)=_;unfold tj fL;rw[aL hx,aD hx,fX hx,aU (by omega)];dsimp only[oT];cases aE (x.toNat:Int) 48 <;> cases aE 57 (x.toNat:Int) <;> rfl) (fun a=>by
  show tj s (ae s) (s.length:Int)=_;unfold tj;rw[aA rfl];try rfl)
 rw[j9]at h;have h':RY s (ae s) 0=_:=h;rw[h'];unfold aH;cases s with
 | nil=>rfl
 | cons x r =>
   have e1:aE 0 (ae (x::r))=true:=aR (by unfold ae; simp only[ams]; omega);have e2:bF (x::r) []=false:=rfl;cases(x::r).all fL
   . rfl
   . dsimp only[oT,oF,oB,oL];rw[e1,e2];try rfl
def kQ(x:UInt8):Bool:=cond (aE (x.toNat:Int) 48) (cond (aE (x.toNat:Int) 97) false (!(aE 122 (x.toNat:Int)))) (cond (aE 57 (x.toNat:Int)) (cond (aE (x.toNat:Int) 97) false (!(aE 122 (x.toNat:Int)))) true)
def bm(s:S8):Bool:=cond (s.all kQ) (da (ae s) 1 6) false
theorem l7(s:S8)(hs:s.length<=bQ):M6 s=zR (bm s):=by
 unfold M6;have h:=aS (step:=Az sE) s (fun i (_:Unit)=>(s,((i:Nat):Int),())) (fun _ x _=>bif kQ x then Sum.inl ()else .inr (.inr (false,()))) (fun _=> .inl (s,(s.length:Int),())) (a0:=()) (fun i x a hx=>by
  have aV:=ah hx;show sE s (i:Int)=_;unfold sE kQ;rw[aL hx,aD hx,fX hx,aU (by omega)];dsimp only[oT];cases aE (x.toNat:Int) 48 <;> cases aE 57 (x.toNat:Int) <;> cases aE (x.toNat:Int) 97 <;> cases aE 122 (x.toNat:Int) <;> rfl) (fun a=>by
  show sE s (s.length:Int)=_;unfold sE;rw[aA rfl];try rfl)
 rw[j9]at h;have h':Qr s 0=_:=h;rw[h'];unfold bm;cases s.all kQ <;> rfl
theorem l8(s:S8)(hs:s.length<=bQ):Hq s=zR (bm s):=by
 unfold Hq;have h:=aS (step:=fE uh) s (fun i (_:Unit)=>(s,ae s,((i:Nat):Int),())) (fun _ x _=>bif kQ x then Sum.inl ()else .inr (.inr (false,()))) (fun _=> .inl (s,ae s,(s.length:Int),())) (a0:=()) (fun i x a hx=>by
  have aV:=ah hx;show uh s (ae s) (i:Int)=_;unfold uh kQ;rw[aL hx,aD hx,fX hx,aU (by omega)];dsimp only[oT];cases aE (x.toNat:Int) 48 <;> cases aE 57 (x.toNat:Int) <;> cases aE (x.toNat:Int) 97 <;> cases aE 122 (x.toNat:Int) <;> rfl) (fun a=>by
  show uh s (ae s) (s.length:Int)=_;unfold uh;rw[aA rfl];try rfl)
 rw[j9]at h;have h':RH s (ae s) 0=_:=h;rw[h'];unfold bm;cases s.all kQ <;> rfl
def mH(h:aO):Bool:=cond (bm h.1) (cond (da h.2.1 1 9007199254740992) (bh h.2.2.1) false) false
theorem abH(h:aO)(hs:h.1.length<=bQ):W5 h=zR (mH h):=by unfold W5 mH;simp only[l7 _ hs,oI,iO,oB];cases bm h.1 <;> cases da h.2.1 1 9007199254740992 <;> rfl
theorem ab1(h:aO)(hs:h.1.length<=bQ):XR h=zR (mH h):=by unfold XR mH;simp only[l8 _ hs,lC,iP,oB];cases bm h.1 <;> cases da h.2.1 1 9007199254740992 <;> rfl
def ft(xs:List aO)(i:Nat)(x:aO):Bool:=cond (mH x) (cond (aE 0 (i:Int)) (BR (gt ([],0,0,()) xs ((i:Int)-1)).1 x.1) true) false
def dm(xs:List aO):Bool:=cond (allI (ft xs) 0 xs) (ck (ae xs) 4) false
theorem rN:∀(s t:S8),(Op.bytesLess s t||bF s t)= !(Op.bytesLess t s)
 | [],[]=>rfl
 | [],_::_=>rfl
 | _::_,[]=>rfl
 | a::s,b::t=>by
   have ih:=rN s t;have e:bF (a::s) (b::t)=(a == b&&bF s t):=rfl;show((decide (a<b)||(a == b&&Op.bytesLess s t))||bF (a::s) (b::t))= !(decide (b<a)||(b == a&&Op.bytesLess t s));rw[e];rcases aoR a.toNat b.toNat with h | h | h
   . have h1:a<b:=aom.2 h;have h2:¬ b<a:=fun hh=>by have:=aom.1 hh; omega
     have h3:(b == a)=false:=by rw[beq_eq_false_iff_ne]; intro hh; subst hh; omega
     simp[h1,h2,h3]
   . have h1:a=b:=UInt8.toNat_inj.1 h;subst h1;have h2:¬ a<a:=fun hh=>by have:=aom.1 hh; omega
     simpa[h2]using ih
   . have h1:¬ a<b:=fun hh=>by have:=aom.1 hh; omega
     have h2:b<a:=aom.2 h;have h3:(a == b)=false:=by rw[beq_eq_false_iff_ne]; intro hh; subst hh; omega
     simp[h1,h2,h3]
theorem K5(s t:S8):leS s t= !(BR t s):=rN s t
def tE(xs:List aO):Prop:=xs.length<=bQ/\∀ y∈xs,y.1.length<=bQ
theorem od{α:Type}{xs:List α}{i:Nat}{x:α}(hx:xs[i]? = some x)(h:0<i):aX ((i:Int)-1) xs=true:=by
 have:=ah hx;have e:(i:Int)-1=((i-1:Nat):Int):=by omega
 rw[e]; exact im (by omega)
theorem EC(xs:List aO)(hb:tE xs):Jl xs=zR (dm xs):=by
 have bp:=bk;unfold Jl;have h:=aS (step:=eo sP) xs (fun i (_:Unit)=>(xs,xs,ae xs,((i:Nat):Int),())) (fun i x _=>bif ft xs i x then Sum.inl ()else .inr (.inr (false,()))) (fun _=> .inl (xs,xs,ae xs,(xs.length:Int),())) (a0:=()) (fun i x a hx=>by
  have aV:=ah hx;have hl:=hb.1;show sP xs xs (ae xs) (i:Int)=_;unfold sP ft;rw[aL hx,aD hx,aM _ hx];dsimp only[oT];rw[abH x (hb.2 x (amk hx)),aU (by omega)];dsimp only[oB];cases mH x with
  | false=>rfl
  | true =>
    by_cases h0:0<i
    . rw[aR (show(0:Int)<i by omega),bI (by omega) (by omega),od hx h0];dsimp only[oT,oF,oN];have e:gt d192 xs ((i:Int)-1)=gt ([],0,0,()) xs ((i:Int)-1):=rfl;rw[e];cases BR (gt ([],0,0,()) xs ((i:Int)-1)).1 x.1 <;> rfl
    . rw[aF (show ¬ (0:Int)<i by omega)];try rfl) (fun a=>by
  show sP xs xs (ae xs) (xs.length:Int)=_;unfold sP;rw[aA rfl];try rfl)
 rw[kg]at h;have h':QN xs xs (ae xs) 0=_:=h;rw[h'];unfold dm;cases allI (ft xs) 0 xs <;> rfl
theorem DD(xs:List aO)(hb:tE xs):NH xs=zR (dm xs):=by
 have bp:=bk;unfold NH;have h:=aS (step:=eo sN) xs (fun i (_:Unit)=>(xs,xs,ae xs,((i:Nat):Int),())) (fun i x _=>bif ft xs i x then Sum.inl ()else .inr (.inr (false,()))) (fun _=> .inl (xs,xs,ae xs,(xs.length:Int),())) (a0:=()) (fun i x a hx=>by
  have aV:=ah hx;have hl:=hb.1;show sN xs xs (ae xs) (i:Int)=_;unfold sN ft;rw[aL hx,aD hx,aM _ hx];dsimp only[oT];rw[ab1 x (hb.2 x (amk hx)),aU (by omega)];dsimp only[oB];cases mH x with
  | false=>rfl
  | true =>
    by_cases h0:0<i
    . rw[aR (show(0:Int)<i by omega),bI (by omega) (by omega),od hx h0];dsimp only[oT,oF,oN];rw[K5];have e:gt d192 xs ((i:Int)-1)=gt ([],0,0,()) xs ((i:Int)-1):=rfl;rw[e];cases BR (gt ([],0,0,()) xs ((i:Int)-1)).1 x.1 <;> rfl
    . rw[aF (show ¬ (0:Int)<i by omega)];try rfl) (fun a=>by
  show sN xs xs (ae xs) (xs.length:Int)=_;unfold sN;rw[aA rfl];try rfl)
 rw[kg]at h;have h':RW xs xs (ae xs) 0=_:=h;rw[h'];unfold dm;cases allI (ft xs) 0 xs <;> rfl
def gV(dbl:Bool)(x:UInt8):Int:=cond dbl (cond (aE 9 (2 * ((x.toNat:Int)-48))) (2 * ((x.toNat:Int)-48)-9) (2 * ((x.toNat:Int)-48))) ((x.toNat:Int)-48)
theorem yu(b:Bool){x:UInt8}(h:fL x=true):0<=gV b x/\gV b x<=9:=by
 obtain⟨h1,h2⟩:=di.1 h;unfold gV aE;cases b
 . dsimp only[oF]; omega
 . dsimp only[oT];by_cases h9:9<2 * ((x.toNat:Int)-48)
   . rw[amg h9]; dsimp only[oT]; omega
   . rw[amB h9]; dsimp only[oF]; omega
def Et(xs:S8)(a:Int×Bool):Int×Bool:=xs.foldl (fun a x=>(a.1+gV a.2 x,!a.2)) a
def Se(xs:S8)(a:Int×Bool):Int×Bool:=xs.foldl (fun a x=>((a.1+gV a.2 x) % 10,!a.2)) a
theorem Mb:∀(xs:S8) (a:Int) (b:Bool),Se xs (a % 10,b)=((Et xs (a,b)).1 % 10,(Et xs (a,b)).2)
 | [],a,b=>rfl
 | x::r,a,b=>by
   have e:(a % 10+gV b x) % 10=(a+gV b x) % 10:=by omega
   show Se r ((a % 10+gV b x) % 10,!b)=((Et r (a+gV b x,!b)).1 % 10,(Et r (a+gV b x,!b)).2);rw[e];exact Mb r _ _
def F8(s:S8):Int:=cond (aH s) ((10-(Et s.reverse (0,true)).1 % 10) % 10) (-1)
theorem jR{s:S8}(h:aH s=true):∀ x∈s,fL x=true:=by
 unfold aH at h;cases hs:s.all fL with
 | true=>exact fun x hx=>amx.1 hs x hx
 | false=>rw[hs]at h; simp at h
theorem EZ{s:S8}{i:Nat}{x:UInt8}(h:s.reverse[i]? = some x):i<s.length/\s[s.length-1-i]? = some x:=by
 have hl:i<s.length:=by simpa using ah h
 refine⟨hl,?_⟩;rwa [List.getElem?_reverse hl]at h
theorem Zz{x:UInt8}(h:fL x=true):bf .i64 (dC .i64 (x.toNat:Int)) 48=(x.toNat:Int)-48:=by obtain⟨h1,h2⟩:=di.1 h;have e:dC .i64 (x.toNat:Int)=(x.toNat:Int):=IntWalk.i64_in _ (by omega);rw[e]; exact bI (by omega) (by omega)
theorem Zn{x:UInt8}(h:fL x=true):dC .i64 (bf .u8 (x.toNat:Int) 48)=(x.toNat:Int)-48:=by obtain⟨h1,h2⟩:=di.1 h;have e:bf .u8 (x.toNat:Int) 48=(x.toNat:Int)-48:=IntWalk.u8_in _ (by omega);rw[e]; exact IntWalk.i64_in _ (by omega)
theorem KJ{a b:Int}(h1 : -4611686018427387904<=a * b)(h2:a * b<=4611686018427387904):yg .i64 a b=a * b:=by unfold yg; rw[IntWalk.i64_in _ (by omega)]
theorem rm{a:Int}(h:0<=a):eH a 10=a % 10:=by unfold eH; exact anw h
theorem adx(s:S8)(hs:s.length<=bQ):VM s=zR (F8 s):=by
 have bp:=bk;unfold VM F8;rw[gi s hs];dsimp only[oB];cases hd:aH s with
 | false=>rfl
 | true =>
 have gm:=jR hd
 have h:=aP (step:=eo xm) s.reverse (fun i (a:Int×Bool)=>(s,a.1,a.2,(s.length:Int)-1-((i:Nat):Int),())) (fun _ x a=>Sum.inl ((a.1+gV a.2 x) % 10,!a.2)) (fun a=> .inl (s,a.1,a.2,(-1:Int),()))
  (fun _ a=>0<=a.1/\a.1<10) (a0:=(0,true)) ⟨by decide,by decide⟩ (fun i x a hx ha=>by
    obtain⟨aV,lQ⟩:=EZ hx;have hdx:=gm x (amk lQ);have Pc:=yu a.2 hdx;have mV:=di.1 hdx;have e:(s.length:Int)-1-(i:Int)=((s.length-1-i:Nat):Int):=by omega
    have e':(s.length:Int)-1-((i+1:Nat):Int)=((s.length-1-i:Nat):Int)-1:=by omega
    obtain⟨a1,a2⟩:=a;show xm s a1 a2 ((s.length:Int)-1-(i:Int))=some (.inl (s,(a1+gV a2 x) % 10,!a2,(s.length:Int)-1-((i+1:Nat):Int),()));rw[e,e'];have hle:ck 0 ((s.length-1-i:Nat):Int)=true:=amg (by omega);have ha:0<=a1/\a1<10:=ha;unfold xm;rw[hle,aD lQ,fX lQ,Zz hdx,bI (a:=((s.length-1-i:Nat):Int)) (b:=1) (by omega) (by omega)];have hb:(0<=gV a2 x/\gV a2 x<=9):=Pc;cases a2 with
    | false => have hv:gV false x=(x.toNat:Int)-48:=rfl;dsimp only[oT,oF,oM];rw[bd (by omega) (by omega),rm (by omega),hv]
    | true =>
      dsimp only[oT,oF,oM,oN];rw[KJ (by omega) (by omega)];by_cases h9:9<2 * ((x.toNat:Int)-48)
      . have hv:gV true x=2 * ((x.toNat:Int)-48)-9:=by unfold gV; rw[aR h9];try rfl
        rw[aR h9]; dsimp only[oT,oF,oM]; rw[bI (by omega) (by omega),bd (by omega) (by omega),rm (by omega),hv]
      . have hv:gV true x=2 * ((x.toNat:Int)-48):=by unfold gV; rw[aF h9];try rfl
        rw[aF h9]; dsimp only[oT,oF,oM]; rw[bd (by omega) (by omega),rm (by omega),hv]) (fun i x a a' hx ha hf=>by
    simp only[amu]at hf;subst hf;show 0<=(a.1+gV a.2 x) % 10/\(a.1+gV a.2 x) % 10<10;omega) (fun a ha=>by
    have e:(s.length:Int)-1-((s.reverse.length:Nat):Int) = -1:=by simp; omega
    show xm s a.1 a.2 ((s.length:Int)-1-((s.reverse.length:Nat):Int))=_;rw[e];try rfl)
 rw[bS (fun x a=>((a.1+gV a.2 x) % 10,!a.2))]at h;have h':RR s 0 true ((s.length:Int)-1-((0:Nat):Int))=some (.inl (s,(Se s.reverse (0,true)).1,(Se s.reverse (0,true)).2,(-1:Int),())):=h;have e0:(s.length:Int)-1-((0:Nat):Int)=bf .i64 (ae s) 1:=by rw[bI (by unfold ae; omega) (by unfold ae; omega)]; unfold ae; omega
 have eT:(Se s.reverse (0,true)).1=(Et s.reverse (0,true)).1 % 10:=by have:=Mb s.reverse 0 true;rw[show(0:Int) % 10=0 from rfl]at this;rw[this]
 rw[e0]at h';rw[h',eT];dsimp only[oB,oL,oT,oF,oN];rw[bI (by omega) (by omega),rm (by omega)];try rfl
theorem ace(s:S8)(hs:s.length<=bQ):VT s=zR (F8 s):=by
 have bp:=bk;unfold VT F8;rw[iZ s hs];dsimp only[oB];cases hd:aH s with
 | false=>rfl
 | true =>
 have gm:=jR hd
 have h:=aP (step:=eo wv) s.reverse (fun i (a:Int×Bool)=>(s,a.1,a.2,(s.length:Int)-1-((i:Nat):Int),())) (fun _ x a=>Sum.inl (a.1+gV a.2 x,!a.2)) (fun a=> .inl (s,a.1,a.2,(-1:Int),()))
  (fun i a=>0<=a.1/\a.1<=9 * i) (a0:=(0,true)) ⟨by decide,by decide⟩ (fun i x a hx ha=>by
    obtain⟨aV,lQ⟩:=EZ hx;have hdx:=gm x (amk lQ);have Pc:=yu a.2 hdx;have mV:=di.1 hdx;have e:(s.length:Int)-1-(i:Int)=((s.length-1-i:Nat):Int):=by omega
    have e':(s.length:Int)-1-((i+1:Nat):Int)=((s.length-1-i:Nat):Int)-1:=by omega
    obtain⟨a1,a2⟩:=a;show wv s a1 a2 ((s.length:Int)-1-(i:Int))=some (.inl (s,a1+gV a2 x,!a2,(s.length:Int)-1-((i+1:Nat):Int),()));rw[e,e'];have hle:ck 0 ((s.length-1-i:Nat):Int)=true:=amg (by omega);have ha:0<=a1/\a1<=9 * i:=ha;unfold wv;rw[hle,aD lQ,fX lQ,Zn hdx,bI (a:=((s.length-1-i:Nat):Int)) (b:=1) (by omega) (by omega)];have hb:(0<=gV a2 x/\gV a2 x<=9):=Pc;cases a2 with
    | false => have hv:gV false x=(x.toNat:Int)-48:=rfl;dsimp only[oT,oF,oM];rw[bd (by omega) (by omega),hv]
    | true =>
      dsimp only[oT,oF,oM,oN];have em:yg .i64 ((x.toNat:Int)-48) 2=2 * ((x.toNat:Int)-48):=by rw[KJ (by omega) (by omega)]; omega
      rw[em];by_cases h9:9<2 * ((x.toNat:Int)-48)
      . have hv:gV true x=2 * ((x.toNat:Int)-48)-9:=by unfold gV; rw[aR h9];try rfl
        rw[aR h9]; dsimp only[oT,oF,oM]; rw[bI (by omega) (by omega),bd (by omega) (by omega),hv]
      . have hv:gV true x=2 * ((x.toNat:Int)-48):=by unfold gV; rw[aF h9];try rfl
        rw[aF h9]; dsimp only[oT,oF,oM]; rw[bd (by omega) (by omega),hv]) (fun i x a a' hx ha hf=>by
    have Pc:=yu a.2 (gm x (amk (EZ hx).2));simp only[amu]at hf;subst hf;show 0<=a.1+gV a.2 x/\a.1+gV a.2 x<=9 * ((i+1:Nat):Int);omega) (fun a ha=>by
    have e:(s.length:Int)-1-((s.reverse.length:Nat):Int) = -1:=by simp; omega
    show wv s a.1 a.2 ((s.length:Int)-1-((s.reverse.length:Nat):Int))=_;rw[e];try rfl)
 rw[bS (fun x a=>(a.1+gV a.2 x,!a.2))]at h;have h':PH s 0 true ((s.length:Int)-1-((0:Nat):Int))=some (.inl (s,(Et s.reverse (0,true)).1,(Et s.reverse (0,true)).2,(-1:Int),())):=h;have e0:(s.length:Int)-1-((0:Nat):Int)=bf .i64 (ae s) 1:=by rw[bI (by unfold ae; omega) (by unfold ae; omega)]; unfold ae; omega
 have hS:∀(xs:S8) (a:Int×Bool),(∀ x∈xs,fL x=true)->0<=a.1->0<=(Et xs a).1:=by
  intro xs;induction xs with
  | nil=>intro a _ h; exact h
  | cons x r ih => intro a hx h;have:=yu a.2 (hx x (amz ..));exact ih (a.1+gV a.2 x,!a.2) (fun y hy=>hx y (amt _ hy)) (by show 0<=a.1+gV a.2 x; omega)
 have h0:=hS s.reverse (0,true) (fun x hx=>gm x (List.mem_reverse.1 hx)) (by decide);rw[e0]at h';rw[h'];dsimp only[oB,oL,oT,oF,oN];rw[rm h0,bI (by omega) (by omega),rm (by omega)];try rfl
def vc(s:S8):Bool:=cond (aH s) (cond (ck 2 (ae s)) (aj (F8 (sub s 0 (ae s-1))) (fh s (ae s-1)-48)) false) false
theorem YF{s:S8}(hd:aH s=true)(h:2<=s.length):∃ x,fL x=true/\aX (ae s-1) s=true/\fh s (ae s-1)=(x.toNat:Int)/\eV 0 (ae s-1) s=true/\(sub s 0 (ae s-1)).length<=s.length:=by
 have e:ae s-1=((s.length-1:Nat):Int):=by unfold ae; omega
 obtain⟨x,hx⟩:∃ x,s[s.length-1]? = some x:=⟨s[s.length-1]'(by omega),by simp⟩;refine⟨x,jR hd x (amk hx),?_,?_,?_,?_⟩
 . rw[e]; exact aD hx
 . rw[e]; exact fX hx
 . rw[e]; unfold eV jN ck;rw[amg (by decide),amg (by omega),amg (by omega)];try rfl
 . rw[e]; unfold sub; simp
theorem T1(s:S8)(hs:s.length<=bQ):X6 s=zR (vc s):=by
 have bp:=bk;unfold X6 vc;rw[gi s hs];dsimp only[oB];cases hd:aH s with
 | false=>rfl
 | true =>
   by_cases h2:2<=s.length
   . obtain⟨x,h3,h4,h5,h6,h7⟩:=YF hd h2;have e1:ck 2 (ae s)=true:=amg (by unfold ae; omega);have e2:bf .i64 (ae s) 1=ae s-1:=bI (by unfold ae; omega) (by unfold ae; omega);rw[aF (show ¬ ae s<2 by unfold ae; omega),e1,e2];dsimp only[oT,oF,oN];rw[h6,h4,adx _ (aml h7 hs),h5,Zz h3];try rfl
   . have e1:ck 2 (ae s)=false:=amB (by unfold ae; omega);rw[aR (show ae s<2 by unfold ae; omega),e1];try rfl
theorem Tk(s:S8)(hs:s.length<=bQ):Ws s=zR (vc s):=by
 have bp:=bk;unfold Ws vc;have e2:bf .i64 (ae s) 1=ae s-1:=bI (by unfold ae; omega) (by unfold ae; omega);dsimp only;rw[iZ s hs,e2];dsimp only[oB];by_cases h2:2<=s.length
 . have e1:ck 2 (ae s)=true:=amg (by unfold ae; omega);have e3:ck 1 (ae s-1)=true:=amg (by unfold ae; omega);rw[e1,e3];cases hd:aH s with
   | false=>rfl
   | true => obtain⟨x,h3,h4,h5,h6,h7⟩:=YF hd h2;dsimp only[oT,oF,oN];rw[h6,h4,ace _ (aml h7 hs),h5,Zn h3];try rfl
 . have e1:ck 2 (ae s)=false:=amB (by unfold ae; omega);have e3:ck 1 (ae s-1)=false:=amB (by unfold ae; omega);rw[e1,e3];cases aH s <;> rfl
def fB(s:S8):Bool:=cond (ck (ae s) 19) (vc s) false
theorem yW(s:S8)(hs:s.length<=bQ):wV s=zR (fB s):=by unfold wV fB;rw[T1 s hs];cases ck (ae s) 19 <;> rfl
theorem zX(s:S8)(hs:s.length<=bQ):xg s=zR (fB s):=by unfold xg fB;rw[Tk s hs];cases ck (ae s) 19 <;> rfl
def ej(a:Int):Int:=if a<0 then 0 else if 4611686018427387904<a then 4611686018427387904 else a
theorem iF(a:Int):0<=ej a/\ej a<=4611686018427387904:=by
 unfold ej;split
 . omega
 . split <;> omega
def fj(a b:Int):Int:=if 4611686018427387904-ej b<ej a then 4611686018427387904 else ej a+ej b
theorem yy(a b:Int):0<=fj a b/\fj a b<=4611686018427387904:=by have:=iF a; have:=iF b;unfold fj; split <;> omega
theorem L8(a:Int):Qz a 0 4611686018427387904=zR (ej a):=by
 unfold Qz ej;by_cases h:a<0
 . rw[aR h,if_pos h];try rfl
 . by_cases h2:4611686018427387904<a
   . rw[aF h,if_neg h,aR h2,if_pos h2];try rfl
   . rw[aF h,if_neg h,aF h2,if_neg h2];try rfl
theorem A4{a:Int}(h:0<=a/\a<=4611686018427387904):bY a=true:=bB.2 h
theorem x3(a b:Int):Ba a b=zR (fj a b):=by
 unfold Ba acg fj;have h1:=iF a;have h2:=iF b;rw[L8,L8];dsimp only[oB];rw[pf,pf,A4 h1,A4 h2,bI (by omega) (by omega)];dsimp only[oB,oN,oF];by_cases h:4611686018427387904-ej b<ej a
 . rw[aR h,if_pos h];try rfl
 . rw[aF h,if_neg h,bd (by omega) (by omega)];try rfl
theorem Br(a b:Int):B4 a b=zR (fj a b):=by
 have e:∀ x:Int,JA 0 (UX x 4611686018427387904)=ej x:=fun x=>by unfold JA UX ej;split <;> split <;> (try split) <;> omega
 have h1:=iF a;have h2:=iF b;unfold B4 fj;dsimp only;rw[e,e,bI (by omega) (by omega)];by_cases h:4611686018427387904-ej b<ej a
 . rw[aR h,if_pos h];try rfl
 . rw[aF h,if_neg h,bd (by omega) (by omega)];try rfl
def vg(xs:List aO):Int:=xs.foldl (fun a h=>fj a h.2.1) 0
theorem HO(xs:List aO)(hs:xs.length<=bQ):Ql xs=zR (vg xs):=by
 unfold Ql;have h:=aS (step:=eo sG) xs (fun i (a:Int)=>(a,xs,ae xs,((i:Nat):Int),())) (fun _ x a=>Sum.inl (fj a x.2.1)) (fun a=> .inl (a,xs,ae xs,(xs.length:Int),())) (a0:=0) (fun i x a hx=>by
  have aV:=ah hx;show sG a xs (ae xs) (i:Int)=_;unfold sG;rw[aL hx,aD hx,aM _ hx,aU (by omega),x3];try rfl) (fun a=>by
  show sG a xs (ae xs) (xs.length:Int)=_;unfold sG;rw[aA rfl];try rfl)
 rw[bS (fun(x:aO) a=>fj a x.2.1)]at h;have h':SN 0 xs (ae xs) 0=_:=h;rw[h'];try rfl
theorem HI(xs:List aO)(hs:xs.length<=bQ):QI xs=zR (vg xs):=by
 unfold QI;have h:=aS (step:=eo tG) xs (fun i (a:Int)=>(a,xs,ae xs,((i:Nat):Int),())) (fun _ x a=>Sum.inl (fj a x.2.1)) (fun a=> .inl (a,xs,ae xs,(xs.length:Int),())) (a0:=0) (fun i x a hx=>by
  have aV:=ah hx;show tG a xs (ae xs) (i:Int)=_;unfold tG;rw[aL hx,aD hx,aM _ hx,aU (by omega),Br];try rfl) (fun a=>by
  show tG a xs (ae xs) (xs.length:Int)=_;unfold tG;rw[aA rfl];try rfl)
 rw[bS (fun(x:aO) a=>fj a x.2.1)]at h;have h':QU 0 xs (ae xs) 0=_:=h;rw[h'];try rfl
def gS(r:gu):Bool:=cond (da r.1 1 1000) (cond (da (ae r.2.2.1) 1 8) (cond (aj (ae r.2.2.2.1) (ae r.2.2.1)) (cond (bh r.2.1) (r.2.2.1.all (fun x=>bY x.1)&&r.2.2.2.1.all (fun x=>bY x.1)) false) false) false) false
def j8(r:gu):Prop:=r.2.2.1.length<=1048576/\r.2.2.2.1.length<=1048576
theorem bt{a b:Int}:aj a b=true↔a=b:=by simp[aj]
theorem EA(r:gu)(hb:j8 r):GJ r=zR (gS r):=by
 have bp:=bk;obtain⟨yP,l6⟩:=hb;unfold GJ gS;dsimp only;rw[oI,oI,iO];dsimp only[oB];cases da r.1 1 1000 with
 | false=>rfl
 | true =>
 cases da (ae r.2.2.1) 1 8 with
 | false=>rfl
 | true =>
 cases he:aj (ae r.2.2.2.1) (ae r.2.2.1)with
 | false=>rfl
 | true =>
 cases bh r.2.1 with
 | false=>rfl
 | true =>
 have hlen:r.2.2.2.1.length=r.2.2.1.length:=by have:=bt.1 he;unfold ae at this; omega
 dsimp only[oT,oF,oN];have h:=aS (step:=fE r9) (r.2.2.1.zip r.2.2.2.1) (fun i (_:Unit)=>(ae r.2.2.1,((i:Nat):Int),r,())) (fun _ x _=>bif bY x.1.1&&bY x.2.1 then Sum.inl ()else .inr (.inr (false,()))) (fun _=> .inl (ae r.2.2.1,(r.2.2.1.length:Int),r,())) (a0:=()) (fun i x a hx=>by
  have lQ:=List.getElem?_zip_eq_some.1 hx;have aV:=ah lQ.1;show r9 (ae r.2.2.1) (i:Int) r=_;unfold r9;rw[aL lQ.1,aD lQ.1,aD lQ.2,aM _ lQ.1,aM _ lQ.2,pf,pf,aU (by omega)];dsimp only[oT,oB];cases bY x.1.1 <;> cases bY x.2.1 <;> rfl) (fun a=>by
  have e:(r.2.2.1.zip r.2.2.2.1).length=r.2.2.1.length:=by rw[List.length_zip,hlen,Nat.min_self]
  rw[e];show r9 (ae r.2.2.1) (r.2.2.1.length:Int) r=_;unfold r9;rw[aA rfl];try rfl)
 rw[j9 (fun(x:(Int×Unit)×(Int×Unit))=>bY x.1.1&&bY x.2.1)]at h;have h':RB (ae r.2.2.1) 0 r=_:=h;rw[h'];have hz:∀(a b:List (Int×Unit)),b.length=a.length->(a.zip b).all (fun x=>bY x.1.1&&bY x.2.1)=(a.all (fun x=>bY x.1)&&b.all (fun x=>bY x.1)):=by
  intro a;induction a with
  | nil=>intro b hb; cases b with | nil=>rfl | cons _ _=>simp at hb
  | cons x a ih =>
    intro b hb;cases b with
    | nil=>simp at hb
    | cons y b => simp only[List.zip_cons_cons,am8];rw[ih b (by simpa using hb)];cases bY x.1 <;> cases bY y.1 <;> simp
 rw[hz _ _ hlen];cases r.2.2.1.all (fun x=>bY x.1)&&r.2.2.2.1.all (fun x=>bY x.1) <;> rfl
theorem SM(a b:List (Int×Unit))(ha:a.length<=1048576)(hb:b.length<=1048576):XW [(a,()),(b,())]=zR (a++b):=by
 have bp:=bk;unfold XW;have hlen:((a.length+b.length:Nat):Int)=(a.length:Int)+b.length:=by omega
 have h:JV [(a,()),(b,())] 0 [(a,()),(b,())] 2 0=some (.inl ([(a,()),(b,())],(a.length:Int)+b.length,[(a,()),(b,())],2,2,())):=by
  refine ez _ (x':=([(a,()),(b,())],(a.length:Int),[(a,()),(b,())],2,1,())) ?_ (ez _ (x':=([(a,()),(b,())],(a.length:Int)+b.length,[(a,()),(b,())],2,2,())) ?_ (dK _ ?_))
  . show xb [(a,()),(b,())] 0 [(a,()),(b,())] 2 0=_;unfold xb;have e:ak .i64 0 (ae (gt d52 [(a,()),(b,())] 0).1)=(a.length:Int):=by
     show ak .i64 0 (ae a)=_;rw[bd (by unfold ae; omega) (by unfold ae; omega)]; unfold ae; omega
    dsimp only;rw[e,aF (a:=(a.length:Int)) (b:=0) (by omega)];try rfl
  . show xb [(a,()),(b,())] (a.length:Int) [(a,()),(b,())] 2 1=_;unfold xb;have e:ak .i64 (a.length:Int) (ae (gt d52 [(a,()),(b,())] 1).1)=(a.length:Int)+b.length:=by
     show ak .i64 (a.length:Int) (ae b)=_;rw[bd (by unfold ae; omega) (by unfold ae; omega)]; unfold ae; omega
    dsimp only;rw[e,aF (a:=(a.length:Int)+b.length) (b:=0) (by omega)];try rfl
  . rfl
 have h1:JV [(a,()),(b,())] 0 [(a,()),(b,())] (ae [(a,()),(b,())]) 0=_:=h;have hg:WQ ((a.length:Int)+b.length)=zR []:=by
  unfold WQ;dsimp only;rw[aF (by omega),bI (a:=0) (b:=0) (by decide) (by decide),bI (by omega) (by omega)];by_cases h0:(0:Int)<(a.length:Int)+b.length-(0-0)
  . have e2:mzB 8 ((a.length:Int)+b.length-(0-0))=true:=by
     unfold mzB ck;rw[amg (by omega),amg (by rw[bp]; omega)];try rfl
    have e3:eV 0 0 (wM d3 ((a.length:Int)+b.length-(0-0)))=true:=by unfold eV jN ck;rw[amg (by decide),amg (by omega)];try rfl
    rw[aR h0,e2,e3];try rfl
  . rw[aF h0];try rfl
 have h2:Jc [] [(a,()),(b,())] 2 0=some (.inl (a++b,[(a,()),(b,())],2,2,())):=by
  refine ez _ (x':=(a,[(a,()),(b,())],2,1,())) ?_ (ez _ (x':=(a++b,[(a,()),(b,())],2,2,())) ?_ (dK _ ?_))
  . show wP [] [(a,()),(b,())] 2 0=_;unfold wP;have e:bl 8 ([]:List (Int×Unit)) (gt d52 [(a,()),(b,())] 0).1=true:=amm (by show(0+a.length) * 8<=bQ; omega);rw[e];try rfl
  . show wP a [(a,()),(b,())] 2 1=_;unfold wP;have e:bl 8 a (gt d52 [(a,()),(b,())] 1).1=true:=amm (by show(a.length+b.length) * 8<=bQ; omega);rw[e];try rfl
  . rfl
 have O5:Jc [] [(a,()),(b,())] (ae [(a,()),(b,())]) 0=_:=h2;rw[h1];dsimp only[oB,oL];rw[hg];dsimp only[oB,oL];rw[O5];try rfl
theorem Be(r:gu)(hb:j8 r):Eo r=zR (gS r):=by
 have bp:=bk;obtain⟨yP,l6⟩:=hb;unfold Eo;rw[SM _ _ yP l6];dsimp only[oB];have h:=aS (step:=pZ sw) (r.2.2.1++r.2.2.2.1) (fun i (_:Unit)=>(ae r.2.2.1,r.2.2.1++r.2.2.2.1,ae (r.2.2.1++r.2.2.2.1),((i:Nat):Int),r,())) (fun _ x _=>bif bY x.1 then Sum.inl ()else .inr (.inr (false,()))) (fun _=> .inl (ae r.2.2.1,r.2.2.1++r.2.2.2.1,ae (r.2.2.1++r.2.2.2.1),((r.2.2.1++r.2.2.2.1).length:Int),r,())) (a0:=()) (fun i x a hx=>by
  have aV:=ah hx;rw[amf]at aV;show sw (ae r.2.2.1) (r.2.2.1++r.2.2.2.1) (ae (r.2.2.1++r.2.2.2.1)) (i:Int) r=_;unfold sw;rw[aL hx,aD hx,aM _ hx,ED,aU (by omega)];dsimp only[oT,oB];cases bY x.1 <;> rfl) (fun a=>by
  show sw (ae r.2.2.1) (r.2.2.1++r.2.2.2.1) (ae (r.2.2.1++r.2.2.2.1)) ((r.2.2.1++r.2.2.2.1).length:Int) r=_;unfold sw;rw[aA rfl];try rfl)
 rw[j9 (fun(x:Int×Unit)=>bY x.1)]at h;have h':Sq (ae r.2.2.1) (r.2.2.1++r.2.2.2.1) (ae (r.2.2.1++r.2.2.2.1)) 0 r=_:=h;rw[h',List.all_append];unfold gS;cases r.2.2.1.all (fun x=>bY x.1)&&r.2.2.2.1.all (fun x=>bY x.1)with
 | false => cases da r.1 1 1000 <;> cases da (ae r.2.2.1) 1 8 <;> cases aj (ae r.2.2.2.1) (ae r.2.2.1) <;> cases bh r.2.1 <;> rfl
 | true => dsimp only[oT,oB,oL];rw[lC,lC,iP];dsimp only[oB];cases da r.1 1 1000 <;> cases da (ae r.2.2.1) 1 8 <;> cases aj (ae r.2.2.2.1) (ae r.2.2.1) <;> cases bh r.2.1 <;> rfl
theorem mD{r:gu}(h:gS r=true):(1<=r.1/\r.1<=1000)/\(1<=r.2.2.1.length/\r.2.2.1.length<=8)/\r.2.2.2.1.length=r.2.2.1.length/\(0<=r.2.1/\r.2.1<=1000000000):=by
 unfold gS at h;cases h1:da r.1 1 1000 with
 | false=>rw[h1]at h; simp at h
 | true =>
 cases h2:da (ae r.2.2.1) 1 8 with
 | false=>rw[h1,h2]at h; simp at h
 | true =>
 cases h3:aj (ae r.2.2.2.1) (ae r.2.2.1)with
 | false=>rw[h1,h2,h3]at h; simp at h
 | true =>
 cases h4:bh r.2.1 with
 | false=>rw[h1,h2,h3,h4]at h; simp at h
 | true =>
 have a:=bB.1 h1;have b:=bB.1 h2;have c:=bt.1 h3;have d:=bB.1 h4;unfold ae at b c;exact⟨a,⟨by omega,by omega⟩,by omega,d⟩
def la(s:dj):Bool:=cond (cond (aH s.1) (aj (ae s.1) 6) false) (cond (cond (aH s.2.1) (aj (ae s.2.1) 4) false) (da (ae s.2.2.1) 1 200) false) false
def S6(s:dj):Prop:=s.1.length<=bQ/\s.2.1.length<=bQ
theorem acb(s:dj)(hb:S6 s):WY s=zR (la s):=by unfold WY la;rw[gi _ hb.1,gi _ hb.2];dsimp only[oB];rw[oI];cases cond (aH s.1) (aj (ae s.1) 6) false <;> cases cond (aH s.2.1) (aj (ae s.2.1) 4) false <;> rfl
theorem aa1(s:dj)(hb:S6 s):X4 s=zR (la s):=by unfold X4 yf la;rw[iZ _ hb.1,iZ _ hb.2];dsimp only[oB];rw[lC];cases cond (aH s.1) (aj (ae s.1) 6) false <;> cases cond (aH s.2.1) (aj (ae s.2.1) 4) false <;> rfl
def iV(a b:dj):Bool:=cond (bF a.1 b.1) (bF a.2.1 b.2.1) false
def dp(xs:List dj)(i:Nat)(x:dj):Bool:=cond (la x) ((xs.take i).all (fun y=> !iV y x)) false
def eG(xs:List dj):Bool:=cond (allI (dp xs) 0 xs) (ck (ae xs) 6) false
def IC(xs:List dj):Prop:=xs.length<=1048576/\∀ y∈xs,S6 y
theorem zt{α:Type}(xs:List α)(i:Nat):sub xs 0 (i:Int)=xs.take i:=by unfold sub; simp
theorem kA{α:Type}{xs:List α}{i:Nat}(h:i<=xs.length):eV 0 (i:Int) xs=true:=by unfold eV jN ck;rw[amg (by decide),amg (by omega),amg (by omega)];try rfl
theorem Kr(xs:List dj)(hb:IC xs):g99 xs=zR (eG xs):=by
 have bp:=bk;have yP:=hb.1;unfold g99;have inner:∀(i:Nat) (x:dj),i<=xs.length->YZ xs xs (ae xs) (i:Int) (xs.take i) (ae (xs.take i)) 0 x=some (bif (xs.take i).all (fun y=> !iV y x)then .inl (xs,xs,ae xs,(i:Int),xs.take i,ae (xs.take i),((xs.take i).length:Int),x,())else .inr (false,())):=fun i x hi=>by
  have iy:(xs.take i).length<=xs.length:=by rw[am5]; exact Nat.min_le_right _ _
  have h:=aS (step:=Xe Bx) (xs.take i) (fun j (_:Unit)=>(xs,xs,ae xs,(i:Int),xs.take i,ae (xs.take i),((j:Nat):Int),x,())) (fun _ y _=>bif !iV y x then Sum.inl ()else .inr (.inr (false,()))) (fun _=> .inl (xs,xs,ae xs,(i:Int),xs.take i,ae (xs.take i),((xs.take i).length:Int),x,())) (a0:=()) (fun j y a hy=>by
   have aV:=ah hy;show Bx xs xs (ae xs) (i:Int) (xs.take i) (ae (xs.take i)) (j:Int) x=_;unfold Bx iV;rw[aL hy,aD hy,aM _ hy,aU (by omega)];dsimp only[oT];cases cond (bF y.1 x.1) (bF y.2.1 x.2.1) false <;> rfl) (fun a=>by
   show Bx xs xs (ae xs) (i:Int) (xs.take i) (ae (xs.take i)) ((xs.take i).length:Int) x=_;unfold Bx;rw[aA rfl];try rfl)
  rw[j9 (fun y=> !iV y x)]at h;exact h
 have h:=aS (step:=eo zT) xs (fun i (_:Unit)=>(xs,xs,ae xs,((i:Nat):Int),())) (fun i x _=>bif dp xs i x then Sum.inl ()else .inr (.inr (false,()))) (fun _=> .inl (xs,xs,ae xs,(xs.length:Int),())) (a0:=()) (fun i x a hx=>by
  have aV:=ah hx;show zT xs xs (ae xs) (i:Int)=_;unfold zT dp;rw[aL hx,aD hx,aM _ hx];dsimp only[oT];rw[acb x (hb.2 x (amk hx)),kA (aox aV),zt];dsimp only[oT,oB];rw[inner i x (aox aV)];cases la x with
  | false=>rfl
  | true =>
    cases(xs.take i).all (fun y=> !iV y x)with
    | false=>rfl
    | true =>
      dsimp only[oT,oF,oN,oB,oL];rw[aU (by omega)];try rfl) (fun a=>by
  show zT xs xs (ae xs) (xs.length:Int)=_;unfold zT;rw[aA rfl];try rfl)
 rw[kg]at h;have h':Z7 xs xs (ae xs) 0=_:=h;rw[h'];unfold eG;cases allI (dp xs) 0 xs <;> rfl
def dN{α:Type}(p:α->Bool):Nat->List α->Int
 | _,[] => -1
 | i,x::r=>bif p x then (i:Int)else dN p (i+1) r
theorem ia{α Y:Type}(p:α->Bool)(y:Int->Y)(z:Y)(out:Y->Int)(hy:∀ n,out (y n)=n)(hz:out z = -1):∀(xs:List α) (i:Nat),out (kR (fun i x _=>bif p x then Sum.inr (y (i:Int))else .inl ()) (fun _=>z) i xs ())=dN p i xs
 | [],_=>hz
 | x::r,i=>by
   rw[kR,dN];cases hp:p x with
   | true=>exact hy _
   | false=>exact ia p y z out hy hz r (i+1)
theorem uU{α:Type}(p:α->Bool):∀(xs:List α) (i:Nat),dN p i xs = -1∨((i:Int)<=dN p i xs/\dN p i xs<i+xs.length)
 | [],_=> .inl rfl
 | x::r,i=>by
   rw[dN];cases p x with
   | true=>right; simp only[oT,ams]; omega
   | false =>
     rcases uU p r (i+1)with h | h
     . exact .inl h
     . right; simp only[oF,ams]; omega
theorem F3{α:Type}(p:α->Bool):∀ {xs:List α} {i:Nat} {x:α} (k:Nat),xs[i]? = some x->p x=true->(dN p k xs=((k+i:Nat):Int)↔(xs.take i).all (fun y=> !p y)=true)
 | [],i,x,k,h,_=>by simp at h
 | y::r,0,x,k,h,hp=>by simp only[amj,amd]at h;subst h;rw[dN,hp]; simp
 | y::r,i+1,x,k,h,hp=>by
   have ih:=F3 p (xs:=r) (i:=i) (x:=x) (k+1) (by simpa using h) hp;rw[dN,ao4,am8];cases hy:p y with
   | true => simp only[oT,oN,Bool.false_and,amX,iff_false];omega
   | false => simp only[oF,oM,aod];rw[<- ih,show k+1+i=k+(i+1)by omega]
theorem GV(xs:List dj)(a b:S8)(hs:xs.length<=1048576):P8 xs a b=zR (dN (fun y=>cond (bF y.1 a) (bF y.2.1 b) false) 0 xs):=by
 have bp:=bk;unfold P8 adL;have h:=aS (step:=eo tT) xs (fun i (_:Unit)=>(xs,((a,()),(b,()),()),ae xs,((i:Nat):Int),())) (fun i y _=>bif cond (bF y.1 a) (bF y.2.1 b) false then Sum.inr (.inr ((i:Int),()))else Sum.inl ()) (fun _=> .inl (xs,((a,()),(b,()),()),ae xs,(xs.length:Int),())) (a0:=()) (fun i y u hy=>by
  have aV:=ah hy;show tT xs ((a,()),(b,()),()) (ae xs) (i:Int)=_;unfold tT acD;rw[aL hy,aD hy,aM _ hy,aU (by omega)];dsimp only[oT,oB];cases cond (bF y.1 a) (bF y.2.1 b) false <;> rfl) (fun u=>by
  show tT xs ((a,()),(b,()),()) (ae xs) (xs.length:Int)=_;unfold tT;rw[aA rfl];try rfl)
 have h':T0 xs ((a,()),(b,()),()) (ae xs) 0=_:=h;rw[h'];have hf:=ia (Y:=Sum ((List dj)×(R9×R9×Unit)×Int×Int×Unit) (Int×Unit)) (fun(y:dj)=>cond (bF y.1 a) (bF y.2.1 b) false) (fun n=> .inr (n,())) (.inl (xs,((a,()),(b,()),()),ae xs,(xs.length:Int),())) (fun y=>match y with | .inl _ => -1 | .inr z=>z.1) (fun _=>rfl) rfl xs 0;rw[<- hf];dsimp only[oB];cases kR _ _ 0 xs () <;> rfl
theorem K2(xs:List dj)(hb:IC xs):Sb xs=zR (eG xs):=by
 have bp:=bk;have yP:=hb.1;unfold Sb;have h:=aS (step:=eo sV) xs (fun i (_:Unit)=>(xs,xs,ae xs,((i:Nat):Int),())) (fun i x _=>bif dp xs i x then Sum.inl ()else .inr (.inr (false,()))) (fun _=> .inl (xs,xs,ae xs,(xs.length:Int),())) (a0:=()) (fun i x a hx=>by
  have aV:=ah hx;show sV xs xs (ae xs) (i:Int)=_;unfold sV dp;rw[aL hx,aD hx,aM _ hx];dsimp only[oT];rw[aa1 x (hb.2 x (amk hx))];dsimp only[oT,oB];rw[GV xs _ _ yP,aU (by omega)];have hp:cond (bF x.1 x.1) (bF x.2.1 x.2.1) false=true:=by rw[gI,gI];try rfl
  have hk:=F3 (fun(y:dj)=>cond (bF y.1 x.1) (bF y.2.1 x.2.1) false) 0 hx hp;rw[amp,<- bt]at hk;have Fc:aj (dN (fun(y:dj)=>cond (bF y.1 x.1) (bF y.2.1 x.2.1) false) 0 xs) (i:Int)=(xs.take i).all (fun y=> !iV y x):=by rw[Bool.eq_iff_iff]; exact hk
  cases la x with
  | false=>rfl
  | true =>
    dsimp only[oT,oF,oN,oB];rw[Fc];cases(xs.take i).all (fun y=> !iV y x) <;> rfl) (fun a=>by
  show sV xs xs (ae xs) (xs.length:Int)=_;unfold sV;rw[aA rfl];try rfl)
 rw[kg]at h;have h':Qh xs xs (ae xs) 0=_:=h;rw[h'];unfold eG;cases allI (dp xs) 0 xs <;> rfl
abbrev ax:=S8×Int×Int×Int×Int×List aO×Int×Int×List (Int×Unit)×List (Int×Unit)×List dj×Unit
def dw(a:ax):gu:=(a.2.2.2.2.2.2.1,a.2.2.2.2.2.2.2.1,a.2.2.2.2.2.2.2.2.1,a.2.2.2.2.2.2.2.2.2.1,())
def bK(a:ax):Prop:=a.1.length<=1048576/\(a.2.2.2.2.2.1.length<=1048576/\∀ y∈a.2.2.2.2.2.1,y.1.length<=1048576)/\j8 (dw a)/\a.2.2.2.2.2.2.2.2.2.2.1.length<=1048576/\∀ y∈a.2.2.2.2.2.2.2.2.2.2.1,y.1.length<=1048576/\y.2.1.length<=1048576/\y.2.2.1.length<=1048576
theorem cg{n:Nat}(h:n<=1048576):n<=bQ:=aml h (by decide)
theorem bK.hs{a:ax}(h:bK a):tE a.2.2.2.2.2.1:=⟨cg h.2.1.1,fun y hy=>cg (h.2.1.2 y hy)⟩
theorem bK.ss{a:ax}(h:bK a):IC a.2.2.2.2.2.2.2.2.2.2.1:=⟨h.2.2.2.1,fun y hy=>⟨cg (h.2.2.2.2 y hy).1,cg (h.2.2.2.2 y hy).2.1⟩⟩
def bo(a:ax):Bool:=cond (fB a.1) (cond (da a.2.1 0 9007199254740992) (cond (da a.2.2.2.1 0 1000) (cond (da a.2.2.2.2.1 0 9007199254740992) (cond (bY a.2.2.1) (cond (dm a.2.2.2.2.2.1) (cond (gS (dw a)) (cond (eG a.2.2.2.2.2.2.2.2.2.2.1) (ck (fj a.2.2.1 (vg a.2.2.2.2.2.1)) a.2.1) false) false) false) false) false) false) false) false
theorem mI(a:ax)(hb:bK a):UM a=zR (bo a):=by
 have h1:=yW a.1 (cg hb.1);have h2:=EC _ hb.hs;have h3:GJ (a.2.2.2.2.2.2.1,a.2.2.2.2.2.2.2.1,a.2.2.2.2.2.2.2.2.1,a.2.2.2.2.2.2.2.2.2.1,())=_:=EA (dw a) hb.2.2.1;have h4:=Kr _ hb.ss;have h5:=HO _ hb.hs.1;unfold UM bo;rw[h1,h2,h3,h4,h5,oI,oI,oI,pf];dsimp only[oB];rw[x3];dsimp only[oB];cases fB a.1 <;> first | rfl | skip
 cases da a.2.1 0 9007199254740992 <;> first | rfl | skip
 cases da a.2.2.2.1 0 1000 <;> first | rfl | skip
 cases da a.2.2.2.2.1 0 9007199254740992 <;> first | rfl | skip
 cases bY a.2.2.1 <;> first | rfl | skip
 cases dm a.2.2.2.2.2.1 <;> first | rfl | skip
 cases gS (dw a) <;> first | rfl | skip
 cases eG a.2.2.2.2.2.2.2.2.2.2.1 <;> rfl
theorem nC(a:ax)(hb:bK a):IL a=zR (bo a):=by
 have h1:=zX a.1 (cg hb.1);have h2:=DD _ hb.hs;have h3:Eo (a.2.2.2.2.2.2.1,a.2.2.2.2.2.2.2.1,a.2.2.2.2.2.2.2.2.1,a.2.2.2.2.2.2.2.2.2.1,())=_:=Be (dw a) hb.2.2.1;have h4:=K2 _ hb.ss;have h5:=HI _ hb.hs.1;unfold IL bo;rw[h1,h2,h3,h4,h5,lC,lC,lC,ED];dsimp only[oB];rw[Br];dsimp only[oB];cases fB a.1 <;> first | rfl | skip
 cases da a.2.1 0 9007199254740992 <;> first | rfl | skip
 cases da a.2.2.2.1 0 1000 <;> first | rfl | skip
 cases da a.2.2.2.2.1 0 9007199254740992 <;> first | rfl | skip
 cases bY a.2.2.1 <;> first | rfl | skip
 cases dm a.2.2.2.2.2.1 <;> first | rfl | skip
 cases gS (dw a) <;> first | rfl | skip
 cases eG a.2.2.2.2.2.2.2.2.2.2.1 <;> rfl
theorem jh{α:Type}{b:Nat}{xs:List α}(h:xs.length * b<=bQ):bl b ([]:List α) xs=true:=amm (by simpa using h)
theorem Bf(r:gu)(hb:j8 r):DP r=some ((),(r,())):=by have bp:=bk;obtain⟨h1,h2⟩:=hb;unfold DP;rw[jh (by omega),jh (by omega)];try rfl
theorem zi(r:gu)(hb:j8 r):DO r=some ((),(r,())):=by have bp:=bk;obtain⟨h1,h2⟩:=hb;unfold DO Oh;rw[jh (by omega),jh (by omega)];try rfl
theorem wT(xs:List dj)(hs:xs.length<=1048576)(hb:∀ y∈xs,y.2.2.1.length<=1048576):g98 xs=zR xs:=by
 have bp:=bk;unfold g98;have h:=aP (step:=eo A1) xs (fun i (a:List dj)=>(a,xs,ae xs,((i:Nat):Int),())) (fun _ x a=>Sum.inl (a++[x])) (fun a=> .inl (a,xs,ae xs,(xs.length:Int),())) (fun i a=>a.length=i) (a0:=[]) rfl (fun i x a hx ha=>by
  have aV:=ah hx;have hm:=hb x (amk hx);show A1 a xs (ae xs) (i:Int)=_;unfold A1;have e:∀ y:dj,bl 56 a [y]=true:=fun y=>amm (by simp; omega)
  rw[aL hx,aD hx,aM _ hx];dsimp only[oT];rw[jh (by omega),e,aU (by omega)];try rfl) (fun i x a a' hx ha hf=>by
  simp only[amu]at hf;rw[<- hf,amf,ha];try rfl) (fun a ha=>by
  show A1 a xs (ae xs) (xs.length:Int)=_;unfold A1;rw[aA rfl];try rfl)
 rw[mw]at h;have h':aaE [] xs (ae xs) 0=_:=h;rw[h'];try rfl
theorem CC(xs:List dj)(hs:xs.length<=1048576)(hb:∀ y∈xs,y.2.2.1.length<=1048576):M9 xs=zR xs:=by
 have bp:=bk;unfold M9;have h:=aP (step:=eo sa) xs (fun i (a:List dj)=>(a,xs,ae xs,((i:Nat):Int),())) (fun _ x a=>Sum.inl (a++[x])) (fun a=> .inl (a,xs,ae xs,(xs.length:Int),())) (fun i a=>a.length=i) (a0:=[]) rfl (fun i x a hx ha=>by
  have aV:=ah hx;have hm:=hb x (amk hx);show sa a xs (ae xs) (i:Int)=_;unfold sa IW;have e:∀ y:dj,bl 56 a [y]=true:=fun y=>amm (by simp; omega)
  rw[aL hx,aD hx,aM _ hx];dsimp only[oT];rw[jh (by omega),aU (by omega)];dsimp only[oT,oB];rw[e];try rfl) (fun i x a a' hx ha hf=>by
  simp only[amu]at hf;rw[<- hf,amf,ha];try rfl) (fun a ha=>by
  show sa a xs (ae xs) (xs.length:Int)=_;unfold sa;rw[aA rfl];try rfl)
 rw[mw]at h;have h':Ss [] xs (ae xs) 0=_:=h;rw[h'];try rfl
theorem oH(a:ax)(hb:bK a):SY a=some ((),(a,())):=by have bp:=bk;have h1:=hb.2.1.1;have h2:DP (a.2.2.2.2.2.2.1,a.2.2.2.2.2.2.2.1,a.2.2.2.2.2.2.2.2.1,a.2.2.2.2.2.2.2.2.2.1,())=_:=Bf (dw a) hb.2.2.1;have h3:=wT _ hb.2.2.2.1 (fun y hy=>(hb.2.2.2.2 y hy).2.2);unfold SY;rw[jh (by omega),h2,h3];try rfl
theorem FQ(a:ax)(hb:bK a):Q6 a=some ((),(a,())):=by have bp:=bk;have h1:=hb.2.1.1;have h2:DO (a.2.2.2.2.2.2.1,a.2.2.2.2.2.2.2.1,a.2.2.2.2.2.2.2.2.1,a.2.2.2.2.2.2.2.2.2.1,())=_:=zi (dw a) hb.2.2.1;have h3:=CC _ hb.2.2.2.1 (fun y hy=>(hb.2.2.2.2 y hy).2.2);unfold Q6 EE;rw[jh (by omega),h2,h3];try rfl
theorem sg{α Y:Type}(p:α->Bool)(z:List α->Y):∀(xs:List α) (i:Nat) (d:List α),kR (fun _ x (a:List α)=>Sum.inl (bif p x then a++[x]else a)) z i xs d=z (d++xs.filter p)
 | [],_,d=>by simp[kR]
 | x::r,i,d=>by
   rw[kR];simp only;rw[sg p z r (i+1)];cases hp:p x with
   | true=>simp[hp]
   | false=>simp[hp]
def gG(now:Int)(h:aO):Bool:=aE now h.2.2.1
theorem Pp(xs:List aO)(now:Int)(hs:xs.length<=1048576):SI xs now=zR (xs.filter (gG now)):=by
 have bp:=bk;unfold SI;have h:=aP (step:=pZ th) xs (fun i (a:List aO)=>(now,a,xs,ae xs,((i:Nat):Int),())) (fun _ x a=>Sum.inl (bif gG now x then a++[x]else a)) (fun a=> .inl (now,a,xs,ae xs,(xs.length:Int),())) (fun i a=>a.length<=i) (a0:=[]) (oR _) (fun i x a hx ha=>by
  have aV:=ah hx;show th now a xs (ae xs) (i:Int)=_;unfold th abO gG;have e:∀ y:aO,bl 32 a [y]=true:=fun y=>amm (by simp; omega)
  rw[aL hx,aD hx,aM _ hx];dsimp only[oT,oB];rw[e,aU (by omega)];cases aE now x.2.2.1 <;> rfl) (fun i x a a' hx ha hf=>by
  simp only[amu]at hf;rw[<- hf];cases gG now x with
  | true=>simp; omega
  | false=>simp; omega) (fun a ha=>by
  show th now a xs (ae xs) (xs.length:Int)=_;unfold th;rw[aA rfl];try rfl)
 rw[sg]at h;have h':RG now [] xs (ae xs) 0=_:=h;rw[h'];try rfl
theorem NF(xs:List aO)(now:Int)(hs:xs.length<=1048576):Xx xs (now,())=zR (dN (fun y=> !gG now y) 0 xs):=by
 have bp:=bk;unfold Xx;have h:=aS (step:=eo tD) xs (fun i (_:Unit)=>(xs,((now,()),()),ae xs,((i:Nat):Int),())) (fun i y _=>bif !gG now y then Sum.inr (.inr ((i:Int),()))else Sum.inl ()) (fun _=> .inl (xs,((now,()),()),ae xs,(xs.length:Int),())) (a0:=()) (fun i y u hy=>by
  have aV:=ah hy;show tD xs ((now,()),()) (ae xs) (i:Int)=_;unfold tD S0 Xk gG;rw[aL hy,aD hy,aM _ hy,aU (by omega)];dsimp only[oT,oB];cases aE now y.2.2.1 <;> rfl) (fun u=>by
  show tD xs ((now,()),()) (ae xs) (xs.length:Int)=_;unfold tD;rw[aA rfl];try rfl)
 have h':Ri xs ((now,()),()) (ae xs) 0=_:=h;rw[h'];have hf:=ia (Y:=Sum ((List aO)×((Int×Unit)×Unit)×Int×Int×Unit) (Int×Unit)) (fun(y:aO)=> !gG now y) (fun n=> .inr (n,())) (.inl (xs,((now,()),()),ae xs,(xs.length:Int),())) (fun y=>match y with | .inl _ => -1 | .inr z=>z.1) (fun _=>rfl) rfl xs 0;rw[<- hf];dsimp only[oB];cases kR _ _ 0 xs () <;> rfl
theorem sW{α:Type}(p:α->Bool):∀(xs:List α) (k:Nat),dN p k xs = -1->xs.filter (fun y=> !p y)=xs
 | [],_,_=>rfl
 | x::r,k,h=>by
   rw[dN]at h;cases hp:p x with
   | true=>rw[hp]at h; simp only[oT]at h; omega
   | false => rw[hp]at h;simp only[oF]at h;rw[aoP (by simp[hp]),sW p r (k+1) h]
theorem mJ{α:Type}(p:α->Bool):∀(xs:List α) (k:Nat),dN p k xs ≠ -1->∃ i x,dN p k xs=((k+i:Nat):Int)/\xs[i]? = some x/\p x=true/\(xs.take i).filter (fun y=> !p y)=xs.take i
 | [],_,h=>absurd rfl h
 | x::r,k,h=>by
   rw[dN]at h ⊢;cases hp:p x with
   | true=>exact⟨0,x,by simp,rfl,hp,rfl⟩
   | false => rw[hp]at h;simp only[oF]at h ⊢;obtain⟨i,y,h1,h2,h3,h4⟩:=mJ p r (k+1) h;refine⟨i+1,y,by rw[h1]; omega,by simpa using h2,h3,?_⟩;rw[ao4,aoP (by simp[hp]),h4]
theorem Lf{α:Type}{done:List α}{x y:α}{r:List α}{i:Nat}(h:done.length=i):(done++x::r).set i y=done++y::r:=by subst h; simp[List.set_append]
theorem Rm(xs:List aO)(now:Int)(hs:xs.length<=1048576):Sl xs (now,())=zR (xs.filter (gG now)):=by
 have bp:=bk;have Ir:(fun y:aO=> !(!gG now y))=gG now:=by funext y; simp
 unfold Sl;rw[NF xs now hs];dsimp only[oB];by_cases hf:dN (fun y=> !gG now y) 0 xs = -1
 . have:=sW _ _ _ hf;rw[Ir]at this;rw[hf,this];try rfl
 . obtain⟨k,x0,h1,h2,h3,h4⟩:=mJ _ _ _ hf;rw[Ir]at h4;rw[amp]at h1;have hk:=ah h2;have he:aj (k:Int) (-1)=false:=by unfold aj; rw[beq_eq_false_iff_ne]; omega
   rw[h1,he,aU (by omega)];dsimp only[oF];obtain⟨⟨cur,i⟩,hI,hl⟩:=oP (step:=eo qh) xs (fun j (a:List aO×Nat)=>(a.1,((now,()),()),(a.2:Int),((j:Nat):Int),())) (fun a=> .inl (a.1,((now,()),()),(a.2:Int),(xs.length:Int),())) (fun j a=>a.1.length=xs.length/\a.2<j/\a.1.take a.2=(xs.take j).filter (gG now)/\a.1.drop j=xs.drop j) (fun j x a hx ha=>by
    obtain⟨cur,i⟩:=a;obtain⟨Ck,uw,ha3,ha4⟩:=ha;simp only at Ck uw ha3 ha4;have aV:=ah hx;have ye:cur[j]? = some x:=by
     have e1:(cur.drop j)[0]? = some x:=by rw[ha4,anm,amJ]; exact hx
     rw[anm,amJ]at e1;exact e1
    have HY:cur.drop (j+1)=xs.drop (j+1):=by have:=amL List.tail ha4;simpa using this
    have mR:qh cur ((now,()),()) (i:Int) (j:Int)=some (.inl (bif gG now x then (cur.set i x,((now,()),()),((i+1:Nat):Int),((j+1:Nat):Int),())else (cur,((now,()),()),(i:Int),((j+1:Nat):Int),()))):=by
     unfold qh S0 Xk gG;have hi:i<cur.length:=by omega
     have Iq:cur=cur.take i++cur[i]::cur.drop (i+1):=by rw[<- aoo hi,an9]
     have Ft:(cur.take i).length=i:=by rw[am5]; omega
     rw[aL ye,aD ye,aM _ ye,im hi,aU (show j<=bQ by omega),aU (show i<=bQ by omega)];dsimp only[oT,oB];cases aE now x.2.2.1 with
     | false=>rfl
     | true => dsimp only[oT,oF,oN,oM];generalize hci:cur[i]=ci at Iq;generalize hD:cur.drop (i+1)=D at Iq;generalize hT:cur.take i=T at Iq Ft;rw[Iq];simp only[mr _ Ft,eu Ft,Lf Ft];try rfl
    cases Yp:gG now x with
    | true =>
      rw[Yp]at mR;refine⟨(cur.set i x,i+1),mR,by simp[Ck],by omega,?_,?_⟩
      . show(cur.set i x).take (i+1)=_;have hi:i<cur.length:=by omega
        rw[anE,aoT hi,List.take_set_of_le (oR _),ha3,anE,hx];simp[anX,Yp]
      . show(cur.set i x).drop (j+1)=_;rw[List.drop_set_of_lt (by omega),HY]
    | false =>
      rw[Yp]at mR;refine⟨(cur,i),mR,Ck,by omega,?_,HY⟩;show cur.take i=_;rw[ha3,anE,hx];simp[anX,Yp]) (fun a ha=>by
    show qh a.1 ((now,()),()) (a.2:Int) (xs.length:Int)=_;unfold qh;rw[aA ha.1];try rfl) (xs.length-(k+1)) (k+1) (xs,k) (by omega) ⟨rfl,by omega,by
    show xs.take k=_;have Dt:gG now x0=false:=by simpa using h3
    rw[anE,h2,anX,h4];simp[Dt],rfl⟩
   obtain⟨i1,i2,i3,_⟩:=hI;simp only at i1 i2 i3;have Mh:D7 xs ((now,()),()) (k:Int) ((k+1:Nat):Int)=some (.inl (cur,((now,()),()),(i:Int),(xs.length:Int),())):=hl;rw[Mh];dsimp only[oB,oL];have c1:eV (i:Int) (ae cur) cur=true:=by unfold eV jN ck ae;rw[amg (by omega),amg (by omega),amg (by omega)];try rfl
   have c0:(nJ ([],0,0,()) cur (i:Int))=cur.take i++List.replicate (cur.length-i) ([],0,0,()):=by unfold nJ UZ; simp
   have c3:XE (nJ d192 cur (i:Int)) (i:Int)=cur.take i:=by
    show XE (nJ ([],0,0,()) cur (i:Int)) (i:Int)=_;rw[c0]; unfold XE;have:(cur.take i).length=i:=by rw[am5]; omega
    simp only[ank];rw[aoe (by omega),anQ (by omega)]
   have c2:eV 0 (i:Int) (nJ d192 cur (i:Int))=true:=by show eV 0 (i:Int) (nJ ([],0,0,()) cur (i:Int))=true;rw[c0]; exact kA (by simp; omega)
   rw[c1];dsimp only[oT];rw[c2,c3,i3,aoD];try rfl
theorem Sv(xs:List aO)(now:Int)(hs:xs.length<=1048576):Po xs now=zR (xs.filter (gG now)):=by have bp:=bk;unfold Po EE;rw[jh (by omega)];dsimp only[oT,oB];rw[Rm xs now hs];try rfl
def aC(a:ax)(now:Int):ax:=cond (bo a) (cond (bh now) (a.1,a.2.1,a.2.2.1,a.2.2.2.1,a.2.2.2.2.1,a.2.2.2.2.2.1.filter (gG now),a.2.2.2.2.2.2.1,a.2.2.2.2.2.2.2.1,a.2.2.2.2.2.2.2.2.1,a.2.2.2.2.2.2.2.2.2.1,a.2.2.2.2.2.2.2.2.2.2.1,()) a) a
theorem pK(a:ax)(now:Int)(hb:bK a):Cd a now=some ((),(aC a now,())):=by unfold Cd aC;rw[oH a hb,mI a hb,iO,Pp _ now hb.2.1.1];dsimp only[oB];cases bo a <;> cases bh now <;> rfl
theorem nq(a:ax)(now:Int)(hb:bK a):Q8 a now=some ((),(aC a now,())):=by unfold Q8 aC;rw[FQ a hb,nC a hb,iP,Sv _ now hb.2.1.1];dsimp only[oB];cases bo a <;> cases bh now <;> rfl
theorem dS{a:ax}(now:Int)(hb:bK a):bK (aC a now):=by
 unfold aC;cases bo a with
 | false=>exact hb
 | true =>
   cases bh now with
   | false=>exact hb
   | true => obtain⟨h1,⟨h2,h3⟩,h4,h5,h6⟩:=hb;exact⟨h1,⟨aml (am4 _ _) h2,fun y hy=>h3 y (ans.1 hy).1⟩,h4,h5,h6⟩
def az(xs:List aO)(id:S8):Int:=dN (fun y=>bF y.1 id) 0 xs
theorem nT(xs:List aO)(id:S8)(hs:xs.length<=1048576):Eu xs id=zR (az xs id):=by
 have bp:=bk;unfold Eu az;have h:=aS (step:=eo tl) xs (fun i (_:Unit)=>(id,xs,ae xs,((i:Nat):Int),())) (fun i y _=>bif bF y.1 id then Sum.inr (.inr ((i:Int),()))else Sum.inl ()) (fun _=> .inl (id,xs,ae xs,(xs.length:Int),())) (a0:=()) (fun i y u hy=>by
  have aV:=ah hy;show tl id xs (ae xs) (i:Int)=_;unfold tl;rw[aL hy,aD hy,aM _ hy,aU (by omega)];dsimp only[oT];cases bF y.1 id <;> rfl) (fun u=>by
  show tl id xs (ae xs) (xs.length:Int)=_;unfold tl;rw[aA rfl];try rfl)
 have h':SH id xs (ae xs) 0=_:=h;rw[h'];have hf:=ia (Y:=Sum (S8×(List aO)×Int×Int×Unit) (Int×Unit)) (fun(y:aO)=>bF y.1 id) (fun n=> .inr (n,())) (.inl (id,xs,ae xs,(xs.length:Int),())) (fun y=>match y with | .inl _ => -1 | .inr z=>z.1) (fun _=>rfl) rfl xs 0;rw[<- hf];dsimp only[oB];cases kR _ _ 0 xs () <;> rfl
theorem jd(xs:List aO)(id:S8)(hs:xs.length<=1048576):JN xs id=zR (az xs id):=by
 have bp:=bk;unfold JN J4 az;have h:=aS (step:=eo mG) xs (fun i (_:Unit)=>(xs,((id,()),()),ae xs,((i:Nat):Int),())) (fun i y _=>bif bF y.1 id then Sum.inr (.inr ((i:Int),()))else Sum.inl ()) (fun _=> .inl (xs,((id,()),()),ae xs,(xs.length:Int),())) (a0:=()) (fun i y u hy=>by
  have aV:=ah hy;show mG xs ((id,()),()) (ae xs) (i:Int)=_;unfold mG abu;rw[aL hy,aD hy,aM _ hy,aU (by omega)];dsimp only[oT,oB];cases bF y.1 id <;> rfl) (fun u=>by
  show mG xs ((id,()),()) (ae xs) (xs.length:Int)=_;unfold mG;rw[aA rfl];try rfl)
 have h':Gd xs ((id,()),()) (ae xs) 0=_:=h;rw[h'];have hf:=ia (Y:=Sum ((List aO)×(R9×Unit)×Int×Int×Unit) (Int×Unit)) (fun(y:aO)=>bF y.1 id) (fun n=> .inr (n,())) (.inl (xs,((id,()),()),ae xs,(xs.length:Int),())) (fun y=>match y with | .inl _ => -1 | .inr z=>z.1) (fun _=>rfl) rfl xs 0;rw[<- hf];dsimp only[oB];cases kR _ _ 0 xs () <;> rfl
def vp(xs:List aO)(now:Int):Int:=vg (xs.filter (gG now))
theorem MN(xs:List aO)(now:Int)(hs:xs.length<=1048576):Wp xs now=zR (vp xs now):=by unfold Wp;rw[Pp xs now hs];dsimp only[oB];rw[HO _ (cg (aml (am4 _ _) hs))];try rfl
theorem MV(xs:List aO)(now:Int)(hs:xs.length<=1048576):X2 xs now=zR (vp xs now):=by unfold X2;rw[Sv xs now hs];dsimp only[oB];rw[HI _ (cg (aml (am4 _ _) hs))];try rfl
def hO(a:ax)(now:Int):Int:=cond (bo a) (cond (bh now) (bf .i64 (bf .i64 a.2.1 a.2.2.1) (vp a.2.2.2.2.2.1 now)) 0) 0
theorem JI(a:ax)(now:Int)(hb:bK a):NS a now=zR (hO a now):=by unfold NS hO;rw[mI a hb,iO,MN _ now hb.2.1.1];dsimp only[oB];cases bo a <;> cases bh now <;> rfl
theorem JE(a:ax)(now:Int)(hb:bK a):Nz a now=zR (hO a now):=by unfold Nz hO;rw[nC a hb,iP,MV _ now hb.2.1.1];dsimp only[oB];cases bo a <;> cases bh now <;> rfl
def shE(n:Int)(xs:List (Int×Unit))(j:Nat):Int×Unit:=cond (ck n (j:Int)) (gt (0,()) xs ((j:Int)-n)) (0,())
def dY(n:Int)(xs:List (Int×Unit)):List (Int×Unit):=(List.range xs.length).map (shE n xs)
theorem fJ(n:Int)(xs:List (Int×Unit)):(dY n xs).length=xs.length:=by simp[dY]
theorem tC{n:Int}{xs:List (Int×Unit)}{j:Nat}(h:j<xs.length):(dY n xs)[j]? = some (shE n xs j):=by simp[dY,h]
theorem wI{α:Type}{xs:List α}{i:Nat}{x:α}(h:xs[i]? = some x):xs.take (i+1)=xs.take i++[x]:=by rw[anE,h];try rfl
theorem Dc(n:Int)(xs:List (Int×Unit))(hs:xs.length<=1048576)(hn:0<=n/\n<=1000000000):PS xs n=zR (dY n xs):=by
 have bp:=bk;unfold PS;dsimp only;rw[si (by decide) (by omega),mC];obtain⟨u,_,hl⟩:=oP (A:=Unit) (step:=pZ uj) xs (fun j _=>(xs,n,(dY n xs).take j++List.replicate (xs.length-j) (0,()),ae xs,((j:Nat):Int),())) (fun _=> .inl (xs,n,dY n xs,ae xs,(xs.length:Int),())) (fun _ _=>True) (fun j x a hx _=>by
  have aV:=ah hx;have BX:=tC (n:=n) aV;have Ft:((dY n xs).take j).length=j:=by rw[am5,fJ]; omega
  refine⟨(),?_,trivial⟩;show uj xs n ((dY n xs).take j++List.replicate (xs.length-j) (0,())) (ae xs) (j:Int)=some (.inl (xs,n,(dY n xs).take (j+1)++List.replicate (xs.length-(j+1)) (0,()),ae xs,((j+1:Nat):Int),()));obtain⟨q,hq⟩:∃ q,xs.length-j=q+1:=⟨xs.length-j-1,by omega⟩;have v7:xs.length-(j+1)=q:=by omega
  rw[hq,v7,an2,wI BX];unfold uj shE;rw[aL hx,fc Ft,aU (by omega)];dsimp only[oT];by_cases hle:n<=(j:Int)
  . have e1:ck n (j:Int)=true:=amg hle;have e2:aX ((j:Int)-n) xs=true:=by
     have e:(j:Int)-n=(((j:Int)-n).toNat:Int):=by omega
     rw[e]; exact im (by omega)
    rw[e1,bI (by omega) (by omega),e2];dsimp only[oT];rw[eu Ft,amD];try rfl
  . have e1:ck n (j:Int)=false:=amB hle;rw[e1];dsimp only[oF];rw[amD];try rfl) (fun a _=>by
  show uj xs n ((dY n xs).take xs.length++List.replicate (xs.length-xs.length) (0,())) (ae xs) (xs.length:Int)=_;unfold uj;rw[aA rfl,an4,an3,amV,anQ (by rw[fJ]; exact oR _)];try rfl) xs.length 0 () (by omega) trivial
 have Mh:Qb xs n (List.replicate xs.length (0,())) (ae xs) 0=_:=hl;rw[show(List.replicate xs.length d3)=List.replicate xs.length (0,())from rfl,Mh];try rfl
def ky(r:gu)(now:Int):gu:=cond (gS r) (cond (bh now) (cond (ck (now / r.1) r.2.1) r (r.1,now / r.1,dY (now / r.1-r.2.1) r.2.2.1,dY (now / r.1-r.2.1) r.2.2.2.1,())) r) r
theorem w9{a b:Int}(h:a≠b):aj a b=false:=by unfold aj; rw[beq_eq_false_iff_ne]; exact h
theorem PJ{now s:Int}(h:0<=now/\now<=1000000000)(h2:1<=s):kq .i64 now s=now / s/\0<=now / s/\now / s<=1000000000:=by have h3:0<=now / s:=aou h.1 (by omega);have h4:now / s<=now:=Int.ediv_le_self _ h.1;refine⟨?_,h3,by omega⟩;unfold kq;rw[anO h.1];exact IntWalk.i64_in _ (by omega)
theorem I1(r:gu)(now:Int)(hb:j8 r):MF r now=some ((),(ky r now,())):=by
 unfold MF ky;rw[zi r hb,Be r hb,iP];dsimp only[oB];cases hr:gS r with
 | false=>rfl
 | true =>
 cases ht:bh now with
 | false=>rfl
 | true =>
 obtain⟨s1,s2,s3,s4⟩:=mD hr;have tn:=bB.1 ht;obtain⟨q1,q2,q3⟩:=PJ tn s1.1;dsimp only[oT,oF,oN];rw[w9 (show r.1≠0 by omega),q1]
 try dsimp only[oT,oF,oN,oM]
 by_cases hle:now / r.1<=r.2.1
 . rw[show ck (now / r.1) r.2.1=true from amg hle];try rfl
 . rw[show ck (now / r.1) r.2.1=false from amB hle];dsimp only[oT,oF,oN];rw[bI (by omega) (by omega),Dc _ _ hb.1 (by omega),Dc _ _ hb.2 (by omega)];try rfl
theorem SF(r:gu)(now:Int)(hb:j8 r):P4 r now=some ((),(ky r now,())):=by
 have bp:=bk;unfold P4 ky;rw[Bf r hb,EA r hb,iO];dsimp only[oB];cases hr:gS r with
 | false=>rfl
 | true =>
 cases ht:bh now with
 | false=>rfl
 | true =>
 obtain⟨s1,s2,s3,s4⟩:=mD hr;have tn:=bB.1 ht;obtain⟨q1,q2,q3⟩:=PJ tn s1.1;dsimp only[oT,oF,oN];rw[w9 (show r.1≠0 by omega),q1]
 try dsimp only[oT,oF,oN,oM]
 by_cases hle:now / r.1<=r.2.1
 . rw[show ck (now / r.1) r.2.1=true from amg hle];try rfl
 . rw[show ck (now / r.1) r.2.1=false from amB hle];dsimp only[oT,oF,oN];rw[bI (a:=now / r.1) (b:=r.2.1) (by omega) (by omega)];obtain⟨sp,hd,cs,ss,u⟩:=r;obtain⟨⟩:=u;simp only at s1 s2 s3 s4 q1 q2 q3 hle ⊢;have hn:0<=now / sp-hd/\now / sp-hd<=1000000000:=by omega
   generalize Ir:now / sp-hd=n at hn ⊢;obtain⟨u,_,hl⟩:=oP (A:=Unit) (step:=CD sy) cs (fun j _=>(now,n,ae cs,((j:Nat):Int),(sp,hd,cs,ss,()),(0,0,[],[],()),(sp,hd,(dY n cs).take j++cs.drop j,(dY n ss).take j++ss.drop j,()),())) (fun _=> .inl (now,n,ae cs,(cs.length:Int),(sp,hd,cs,ss,()),(0,0,[],[],()),(sp,hd,dY n cs,dY n ss,()),())) (fun _ _=>True) (fun j x a hx _=>by
    have aV:=ah hx;obtain⟨y,hy⟩:∃ y,ss[j]? = some y:=⟨ss[j]'(by omega),ami (by omega)⟩;have BX:=tC (n:=n) aV;have alZ:=tC (n:=n) (ah hy);have Ft:((dY n cs).take j).length=j:=by rw[am5,fJ]; omega
    have Yq:((dY n ss).take j).length=j:=by rw[am5,fJ]; omega
    refine⟨(),?_,trivial⟩;show sy now n (ae cs) (j:Int) (sp,hd,cs,ss,()) (0,0,[],[],()) (sp,hd,(dY n cs).take j++cs.drop j,(dY n ss).take j++ss.drop j,())=some (.inl (now,n,ae cs,((j+1:Nat):Int),(sp,hd,cs,ss,()),(0,0,[],[],()),(sp,hd,(dY n cs).take (j+1)++cs.drop (j+1),(dY n ss).take (j+1)++ss.drop (j+1),()),()));rw[iX hx,iX hy,wI BX,wI alZ];unfold sy shE;dsimp only;rw[aL hx,fc Ft,fc Yq,aU (by omega),eu Ft,eu Yq];dsimp only[oT];by_cases hle:n<=(j:Int)
    . have e1:ck n (j:Int)=true:=amg hle;have e:(j:Int)-n=(((j:Int)-n).toNat:Int):=by omega
      have e2:aX ((j:Int)-n) cs=true:=by rw[e]; exact im (by omega)
      have e3:aX ((j:Int)-n) ss=true:=by rw[e]; exact im (by omega)
      rw[e1,bI (by omega) (by omega),e2,e3];dsimp only[oT];rw[fc Ft,fc Yq,eu Ft,eu Yq,amD,amD];try rfl
    . have e1:ck n (j:Int)=false:=amB hle;rw[e1];dsimp only[oF];rw[amD,amD];try rfl) (fun a _=>by
    show sy now n (ae cs) (cs.length:Int) (sp,hd,cs,ss,()) (0,0,[],[],()) (sp,hd,(dY n cs).take cs.length++cs.drop cs.length,(dY n ss).take cs.length++ss.drop cs.length,())=_;unfold sy;rw[aA rfl,anY,<- s3,anY,amV,amV,anQ (by rw[fJ]; omega),anQ (by rw[fJ]; omega)];try rfl) cs.length 0 () (by omega) trivial
   have Mh:Rp now n (ae cs) 0 (sp,hd,cs,ss,()) (0,0,[],[],()) (sp,hd,cs,ss,())=_:=hl;rw[Mh];dsimp only[oB,oL];rw[w9 (show sp≠0 by omega),q1];try rfl
theorem IT{r:gu}(now:Int)(hb:j8 r):j8 (ky r now):=by
 unfold ky;cases gS r with
 | false=>exact hb
 | true =>
   cases bh now with
   | false=>exact hb
   | true =>
     cases ck (now / r.1) r.2.1 with
     | true=>exact hb
     | false=>exact⟨by show(dY _ _).length<=_; rw[fJ]; exact hb.1,by show(dY _ _).length<=_; rw[fJ]; exact hb.2⟩
theorem uP(r:gu)(now:Int):(ky r now).2.2.1.length=r.2.2.1.length/\(ky r now).2.2.2.1.length=r.2.2.2.1.length:=by unfold ky;cases gS r <;> cases bh now <;> cases ck (now / r.1) r.2.1 <;> first | exact⟨rfl,rfl⟩ | exact⟨fJ _ _,fJ _ _⟩
def P0(xs:List (Int×Unit)):Int:=xs.foldl (fun a x=>fj a x.1) 0
theorem Lc(xs:List (Int×Unit))(hs:xs.length<=1048576):S1 xs=zR (P0 xs):=by
 have bp:=bk;unfold S1;have h:=aS (step:=eo sX) xs (fun i (a:Int)=>(a,xs,ae xs,((i:Nat):Int),())) (fun _ x a=>Sum.inl (fj a x.1)) (fun a=> .inl (a,xs,ae xs,(xs.length:Int),())) (a0:=0) (fun i x a hx=>by
  have aV:=ah hx;show sX a xs (ae xs) (i:Int)=_;unfold sX;rw[aL hx,aD hx,aM _ hx,aU (by omega),Br];try rfl) (fun a=>by
  show sX a xs (ae xs) (xs.length:Int)=_;unfold sX;rw[aA rfl];try rfl)
 rw[bS (fun(x:Int×Unit) a=>fj a x.1)]at h;have h':Pw 0 xs (ae xs) 0=_:=h;rw[h'];try rfl
def rL(r:gu)(now:Int)(sums:Bool):Int:=cond (gS r) (cond (bh now) (P0 (cond sums (ky r now).2.2.2.1 (ky r now).2.2.1)) 0) 0
theorem KN(r:gu)(now:Int)(b:Bool)(hb:j8 r):PW r now b=zR (rL r now b):=by
 have bp:=bk;unfold PW rL;rw[EA r hb,iO,SF r now hb];dsimp only[oB];cases hr:gS r with
 | false=>rfl
 | true =>
 cases ht:bh now with
 | false=>rfl
 | true =>
 dsimp only[oT,oF,oN];obtain⟨s1,s2,s3,s4⟩:=mD hr;have hlen:=uP r now;have hrb:=IT now hb;generalize ky r now=q at hlen hrb ⊢;obtain⟨l1,l2⟩:=hlen;obtain⟨yP,l6⟩:=hrb;have hq:q.2.2.2.1.length=q.2.2.1.length:=by omega
 cases b with
 | false =>
   have h:=aS (step:=pZ ly) q.2.2.1 (fun i (a:Int)=>(false,a,ae q.2.2.1,((i:Nat):Int),q,())) (fun _ x a=>Sum.inl (fj a x.1)) (fun a=> .inl (false,a,ae q.2.2.1,(q.2.2.1.length:Int),q,())) (a0:=0) (fun i x a hx=>by
    have aV:=ah hx;show ly false a (ae q.2.2.1) (i:Int) q=_;unfold ly;rw[aL hx,aD hx,aM _ hx,aU (by omega)];dsimp only[oT,oF];rw[x3];try rfl) (fun a=>by
    show ly false a (ae q.2.2.1) (q.2.2.1.length:Int) q=_;unfold ly;rw[aA rfl];try rfl)
   rw[bS (fun(x:Int×Unit) a=>fj a x.1)]at h;have h':JP false 0 (ae q.2.2.1) 0 q=_:=h;rw[h'];try rfl
 | true =>
   have hl:ae q.2.2.1=ae q.2.2.2.1:=by unfold ae; omega
   rw[hl];have h:=aS (step:=pZ ly) q.2.2.2.1 (fun i (a:Int)=>(true,a,ae q.2.2.2.1,((i:Nat):Int),q,())) (fun _ x a=>Sum.inl (fj a x.1)) (fun a=> .inl (true,a,ae q.2.2.2.1,(q.2.2.2.1.length:Int),q,())) (a0:=0) (fun i x a hx=>by
    have aV:=ah hx;show ly true a (ae q.2.2.2.1) (i:Int) q=_;unfold ly;rw[aL hx,aD hx,aM _ hx,aU (by omega)];dsimp only[oT,oF];rw[x3];try rfl) (fun a=>by
    show ly true a (ae q.2.2.2.1) (q.2.2.2.1.length:Int) q=_;unfold ly;rw[aA rfl];try rfl)
   rw[bS (fun(x:Int×Unit) a=>fj a x.1)]at h;have h':JP true 0 (ae q.2.2.2.1) 0 q=_:=h;rw[h'];try rfl
theorem WO(r:gu)(now:Int)(hb:j8 r):PR r now=zR (rL r now false):=by unfold PR; rw[KN r now false hb];try rfl
theorem aeP(r:gu)(now:Int)(hb:j8 r):PL r now=zR (rL r now true):=by unfold PL; rw[KN r now true hb];try rfl
theorem WN(r:gu)(now:Int)(hb:j8 r):Tv r now=zR (rL r now false):=by unfold Tv rL;rw[Be r hb,iP,I1 r now hb];dsimp only[oB];rw[Lc _ (IT now hb).1];cases gS r <;> cases bh now <;> rfl
theorem agC(r:gu)(now:Int)(hb:j8 r):S3 r now=zR (rL r now true):=by unfold S3 rL;rw[Be r hb,iP,I1 r now hb];dsimp only[oB];rw[Lc _ (IT now hb).2];cases gS r <;> cases bh now <;> rfl
def hE(a:ax)(bJ now:Int):Int:=cond (aE (hO a now) bJ) 7 (cond (aE a.2.2.2.1 (fj (rL (dw a) now false) 1)) 8 (cond (aE a.2.2.2.2.1 (fj (rL (dw a) now true) bJ)) 9 0))
theorem To(a:ax)(bJ now:Int)(hb:bK a):Pt a bJ now=zR (hE a bJ now):=by
 have h1:PR (a.2.2.2.2.2.2.1,a.2.2.2.2.2.2.2.1,a.2.2.2.2.2.2.2.2.1,a.2.2.2.2.2.2.2.2.2.1,()) now=_:=WO (dw a) now hb.2.2.1;have h2:PL (a.2.2.2.2.2.2.1,a.2.2.2.2.2.2.2.1,a.2.2.2.2.2.2.2.2.1,a.2.2.2.2.2.2.2.2.2.1,()) now=_:=aeP (dw a) now hb.2.2.1;unfold Pt hE;rw[JI a now hb,h1,h2];dsimp only[oB];rw[x3,x3];dsimp only[oB];cases aE (hO a now) bJ <;> first | rfl | skip
 cases aE a.2.2.2.1 (fj (rL (dw a) now false) 1) <;> first | rfl | skip
 cases aE a.2.2.2.2.1 (fj (rL (dw a) now true) bJ) <;> rfl
theorem SR(a:ax)(bJ now:Int)(hb:bK a):Ps a bJ now=zR (hE a bJ now):=by
 have h1:Tv (a.2.2.2.2.2.2.1,a.2.2.2.2.2.2.2.1,a.2.2.2.2.2.2.2.2.1,a.2.2.2.2.2.2.2.2.2.1,()) now=_:=WN (dw a) now hb.2.2.1;have h2:S3 (a.2.2.2.2.2.2.1,a.2.2.2.2.2.2.2.1,a.2.2.2.2.2.2.2.2.1,a.2.2.2.2.2.2.2.2.2.1,()) now=_:=agC (dw a) now hb.2.2.1;unfold Ps hE;rw[JE a now hb,h1,h2];dsimp only[oB];rw[Br,Br];dsimp only[oB];cases aE (hO a now) bJ <;> first | rfl | skip
 cases aE a.2.2.2.1 (fj (rL (dw a) now false) 1) <;> first | rfl | skip
 cases aE a.2.2.2.2.1 (fj (rL (dw a) now true) bJ) <;> rfl
def du(r:gu)(now bJ:Int):gu:=cond (gS r) (cond (bh now) (cond (bY bJ) ((ky r now).1,(ky r now).2.1,cZ (ky r now).2.2.1 0 (fj (gt (0,()) (ky r now).2.2.1 0).1 1,()),cZ (ky r now).2.2.2.1 0 (fj (gt (0,()) (ky r now).2.2.2.1 0).1 bJ,()),()) r) r) r
theorem Lj{α:Type}{xs:List α}(h:1<=xs.length):aX 0 xs=true:=im (i:=0) (by omega)
theorem Dg(r:gu)(now bJ:Int)(hb:j8 r):Jj r now bJ=some ((),(du r now bJ,())):=by
 unfold Jj du;rw[EA r hb,iO,pf,Bf r hb,SF r now hb];dsimp only[oB];cases hr:gS r with
 | false=>rfl
 | true =>
 cases bh now with
 | false=>rfl
 | true =>
 cases bY bJ with
 | false=>rfl
 | true =>
 obtain⟨s1,s2,s3,s4⟩:=mD hr;have hlen:=uP r now;dsimp only[oT,oF,oN];rw[Lj (by omega),Lj (by omega),x3,x3];try rfl
theorem Cl(r:gu)(now bJ:Int)(hb:j8 r):Eh r now bJ=some ((),(du r now bJ,())):=by
 unfold Eh du;rw[Be r hb,iP,ED,zi r hb,I1 r now hb];dsimp only[oB];cases hr:gS r with
 | false=>rfl
 | true =>
 cases bh now with
 | false=>rfl
 | true =>
 cases bY bJ with
 | false=>rfl
 | true =>
 obtain⟨s1,s2,s3,s4⟩:=mD hr;have hlen:=uP r now;dsimp only[oT,oF,oN];rw[Lj (by omega),Lj (by omega),Br,Br];try rfl
theorem qo(r:gu)(now bJ:Int):(du r now bJ).2.2.1.length=r.2.2.1.length/\(du r now bJ).2.2.2.1.length=r.2.2.2.1.length:=by unfold du;have h:=uP r now;cases gS r <;> cases bh now <;> cases bY bJ <;> first | exact⟨rfl,rfl⟩ | exact⟨by show(cZ _ _ _).length=_; simp only[cZ,ano]; exact h.1,by show(cZ _ _ _).length=_; simp only[cZ,ano]; exact h.2⟩
def aK:ax:=([],0,0,0,0,[],0,0,[],[],[],())
theorem jQ{xs:List aO}{id:S8}(h:¬ az xs id<0):aX (az xs id) xs=true:=by
 rcases uU (fun(y:aO)=>bF y.1 id) xs 0 with h1 | h1
 . exfalso; apply h; show dN _ 0 xs<0; omega
 . have e:az xs id=((az xs id).toNat:Int):=by omega
   rw[e];have:az xs id<xs.length:=by have:=h1.2; simp only[az]; omega
   exact im (by omega)
def lN(a:ax)(id:S8)(bJ now:Int):ax×Int :=
 cond (cond (bo a) (cond (bh now) (bm id) false) false)
  (cond (da bJ 1 9007199254740992)
    (cond (aE (az (aC a now).2.2.2.2.2.1 id) 0) (aK,5)
      (cond (aj (hE (aC a now) bJ now) 0)
        (((aC a now).1,(aC a now).2.1,(aC a now).2.2.1,(aC a now).2.2.2.1,(aC a now).2.2.2.2.1,
          cZ (aC a now).2.2.2.2.2.1 (az (aC a now).2.2.2.2.2.1 id) ((gt ([],0,0,()) (aC a now).2.2.2.2.2.1 (az (aC a now).2.2.2.2.2.1 id)).1,ak .i64 (gt ([],0,0,()) (aC a now).2.2.2.2.2.1 (az (aC a now).2.2.2.2.2.1 id)).2.1 bJ,(gt ([],0,0,()) (aC a now).2.2.2.2.2.1 (az (aC a now).2.2.2.2.2.1 id)).2.2.1,()),
          (du (dw (aC a now)) now bJ).1,(du (dw (aC a now)) now bJ).2.1,(du (dw (aC a now)) now bJ).2.2.1,(du (dw (aC a now)) now bJ).2.2.2.1,(aC a now).2.2.2.2.2.2.2.2.2.2.1,()),0)
        (aK,hE (aC a now) bJ now)))
    (aK,4))
  (aK,1)
theorem abA(a:ax)(id:S8)(bJ now:Int)(hb:bK a)(hi:id.length<=1048576):V1 a id bJ now=some ((),((lN a id bJ now).1,((lN a id bJ now).2,()),())):=by
 have eD:=dS now hb;unfold V1 z7 lN;rw[mI a hb,iO,l7 id (cg hi),oI,pK a now hb];dsimp only[oB];generalize aC a now=s at eD ⊢;have h1:Jj (s.2.2.2.2.2.2.1,s.2.2.2.2.2.2.2.1,s.2.2.2.2.2.2.2.2.1,s.2.2.2.2.2.2.2.2.2.1,()) now bJ=_:=Dg (dw s) now bJ eD.2.2.1;rw[nT _ id eD.2.1.1,To s bJ now eD];dsimp only[oB];rw[h1];cases bo a <;> first | rfl | skip
 cases bh now <;> first | rfl | skip
 cases bm id <;> first | rfl | skip
 cases da bJ 1 9007199254740992 <;> first | rfl | skip
 dsimp only[oT,oF,oN,oB];by_cases ll:az s.2.2.2.2.2.1 id<0
 . rw[aR ll];try rfl
 . rw[aF ll,jQ ll];dsimp only[oT,oF];cases aj (hE s bJ now) 0 <;> rfl
theorem adv(a:ax)(id:S8)(bJ now:Int)(hb:bK a)(hi:id.length<=1048576):PC a id bJ now=some ((),((lN a id bJ now).1,((lN a id bJ now).2,()),())):=by
 have eD:=dS now hb;unfold PC JF vH lN;rw[nC a hb,iP,l8 id (cg hi),lC,nq a now hb];dsimp only[oB];generalize aC a now=s at eD ⊢;have h1:Eh (s.2.2.2.2.2.2.1,s.2.2.2.2.2.2.2.1,s.2.2.2.2.2.2.2.2.1,s.2.2.2.2.2.2.2.2.2.1,()) now bJ=_:=Cl (dw s) now bJ eD.2.2.1;have h2:=jd s.2.2.2.2.2.1 id eD.2.1.1;have h3:=SR s bJ now eD;have h0:=jd [] id (by decide);cases bo a with
 | false => simp only[oT,oF,oN,oM,oB];rw[h0];try rfl
 | true =>
 cases bh now with
 | false => simp only[oT,oF,oN,oM,oB];rw[h0];try rfl
 | true =>
 simp only[oT,oF,oN,oM,oB];rw[h2];dsimp only[oB];cases bm id with
 | false=>rfl
 | true =>
 cases da bJ 1 9007199254740992 with
 | false=>rfl
 | true =>
 by_cases ll:az s.2.2.2.2.2.1 id<0
 . rw[aR ll];try rfl
 . have Mr:aj 0 0=true:=rfl;rw[aF ll,Mr];simp only[oT,oF,oN,oM,oB];rw[h3];simp only[oT,oF,oN,oM,oB];rw[h1,jQ ll,Mr];cases aj (hE s bJ now) 0 <;> rfl
theorem Gs:∀ s:S8,Op.bytesLess s s=false
 | []=>rfl
 | x::r=>by simp[Op.bytesLess,Gs r]
theorem tQ:∀ s t u:S8,Op.bytesLess s t=true->Op.bytesLess t u=true->Op.bytesLess s u=true
 | [],[],u,h,_=>by simp[Op.bytesLess]at h
 | _::_,[],u,h,_=>by simp[Op.bytesLess]at h
 | _,_::_,[],_,h=>by simp[Op.bytesLess]at h
 | [],_::_,_::_,_,_=>by simp[Op.bytesLess]
 | x::r,y::t,z::u,h1,h2=>by
   simp only[Op.bytesLess,anr,anD,ame,beq_iff_eq]at h1 h2 ⊢;rcases h1 with h1 | ⟨rfl,h1⟩
   . rcases h2 with h2 | ⟨rfl,h2⟩
     . exact .inl (UInt8.lt_trans h1 h2)
     . exact .inl h1
   . rcases h2 with h2 | ⟨rfl,h2⟩
     . exact .inl h2
     . exact .inr ⟨rfl,tQ r t u h1 h2⟩
theorem pC{xs:List aO}(h:dm xs=true):xs.length<=4:=by
 unfold dm at h;cases ha:allI (ft xs) 0 xs with
 | false=>rw[ha]at h; simp at h
 | true => rw[ha]at h;have:(ae xs)<=4:=ana h;unfold ae at this; omega
theorem rS{xs:List aO}(h:dm xs=true):xs.Pairwise fun a b=>BR a.1 b.1=true:=by
 unfold dm at h;cases ha:allI (ft xs) 0 xs with
 | false=>rw[ha]at h; simp at h
 | true =>
   have adj:∀ i (h1:i+1<xs.length),BR (xs[i]'(by omega)).1 xs[i+1].1=true:=fun i h1=>by
    have:=gF _ ha (i:=i+1) (x:=xs[i+1]) (ami h1);unfold ft at this;cases hm:mH xs[i+1]with
    | false=>rw[hm]at this; simp at this
    | true => rw[hm,amp,aR (show(0:Int)<((i+1:Nat):Int)by omega)]at this;simp only[oT]at this;rw[show((i+1:Nat):Int)-1=((i:Nat):Int)by omega,aM _ (ami (show i<xs.length by omega))]at this;exact this
   rw[aoG];intro i j hi hj Dp;obtain⟨d,rfl⟩:∃ d,j=i+1+d:=⟨j-i-1,by omega⟩;induction d with
   | zero=>exact adj i hj
   | succ d ih=>exact tQ _ _ _ (ih (by omega) (by omega)) (adj (i+1+d) hj)
theorem s9{xs:List aO}(h:dm xs=true):∀ x∈xs,mH x=true:=fun x hx=>by
 unfold dm at h;cases ha:allI (ft xs) 0 xs with
 | false=>rw[ha]at h; simp at h
 | true =>
   obtain⟨i,hi,e⟩:=List.getElem_of_mem hx;have:=gF _ ha (i:=i) (x:=x) (by rw[ami hi,e]);unfold ft at this;cases hm:mH x with
   | false=>rw[hm]at this; simp at this
   | true=>rfl
theorem D0{α:Type}(p:Nat->α->Bool):∀(xs:List α) (k:Nat),(∀ i x,xs[i]? = some x->p (k+i) x=true)->allI p k xs=true
 | [],_,_=>rfl
 | x::r,k,h=>by unfold allI;have h0:=h 0 x rfl;rw[amJ]at h0;rw[h0,D0 p r (k+1) fun i y hy=>by have:=h (i+1) y hy; rwa [show k+(i+1)=k+1+i by omega]at this];try rfl
theorem MI{xs:List aO}(h1:∀ x∈xs,mH x=true)(h2:xs.Pairwise fun a b=>BR a.1 b.1=true)(h3:xs.length<=4):dm xs=true:=by
 unfold dm;rw[D0 _ xs 0 fun i x hx => ?_]
 . simp only[oT]; exact amg (by unfold ae; omega)
 . have hi:=ah hx;have hxx:xs[i]=x:=by have:=ami hi; rw[this]at hx; exact am1 hx
   unfold ft;rw[h1 x (hxx ▸ List.getElem_mem hi),amp,oT];cases i with
   | zero=>rfl
   | succ i => rw[aR (show(0:Int)<((i+1:Nat):Int)by omega),oT,show((i+1:Nat):Int)-1=((i:Nat):Int)by omega,aM _ (ami (show i<xs.length by omega)),<- hxx];exact aoG.1 h2 i (i+1) (by omega) hi (by omega)
theorem B9{xs:List aO}(p:aO->Bool)(h:dm xs=true):dm (xs.filter p)=true :=
 MI (fun x hx=>s9 h x (ans.1 hx).1) ((rS h).filter _) (aml (am4 _ _) (pC h))
def cj(id:S8)(h:aO):Bool:= !bF h.1 id
theorem M8(xs:List aO)(id:S8)(hs:xs.length<=1048576):D9 xs (id,())=zR (dN (fun y=> !cj id y) 0 xs):=by
 have bp:=bk;unfold D9;have h:=aS (step:=eo me) xs (fun i (_:Unit)=>(xs,((id,()),()),ae xs,((i:Nat):Int),())) (fun i y _=>bif !cj id y then Sum.inr (.inr ((i:Int),()))else Sum.inl ()) (fun _=> .inl (xs,((id,()),()),ae xs,(xs.length:Int),())) (a0:=()) (fun i y u hy=>by
  have aV:=ah hy;show me xs ((id,()),()) (ae xs) (i:Int)=_;unfold me SL cj;rw[aL hy,aD hy,aM _ hy,aU (by omega)];dsimp only[oT,oB];cases bF y.1 id <;> rfl) (fun u=>by
  show me xs ((id,()),()) (ae xs) (xs.length:Int)=_;unfold me;rw[aA rfl];try rfl)
 have h':HC xs ((id,()),()) (ae xs) 0=_:=h;rw[h'];have hf:=ia (Y:=Sum ((List aO)×((S8×Unit)×Unit)×Int×Int×Unit) (Int×Unit)) (fun(y:aO)=> !cj id y) (fun n=> .inr (n,())) (.inl (xs,((id,()),()),ae xs,(xs.length:Int),())) (fun y=>match y with | .inl _ => -1 | .inr z=>z.1) (fun _=>rfl) rfl xs 0;rw[<- hf];dsimp only[oB];cases kR _ _ 0 xs () <;> rfl
theorem E1(xs:List aO)(id:S8)(hs:xs.length<=1048576):Bo xs (id,())=zR (xs.filter (cj id)):=by
 have bp:=bk;have Ir:(fun y:aO=> !(!cj id y))=cj id:=by funext y; simp
 unfold Bo;rw[M8 xs id hs];dsimp only[oB];by_cases hf:dN (fun y=> !cj id y) 0 xs = -1
 . have:=sW _ _ _ hf;rw[Ir]at this;rw[hf,this];try rfl
 . obtain⟨k,x0,h1,h2,h3,h4⟩:=mJ _ _ _ hf;rw[Ir]at h4;rw[amp]at h1;have hk:=ah h2;have he:aj (k:Int) (-1)=false:=by unfold aj; rw[beq_eq_false_iff_ne]; omega
   rw[h1,he,aU (by omega)];dsimp only[oF];obtain⟨⟨cur,i⟩,hI,hl⟩:=oP (step:=eo lj) xs (fun j (a:List aO×Nat)=>(a.1,((id,()),()),(a.2:Int),((j:Nat):Int),())) (fun a=> .inl (a.1,((id,()),()),(a.2:Int),(xs.length:Int),())) (fun j a=>a.1.length=xs.length/\a.2<j/\a.1.take a.2=(xs.take j).filter (cj id)/\a.1.drop j=xs.drop j) (fun j x a hx ha=>by
    obtain⟨cur,i⟩:=a;obtain⟨Ck,uw,ha3,ha4⟩:=ha;simp only at Ck uw ha3 ha4;have aV:=ah hx;have ye:cur[j]? = some x:=by
     have e1:(cur.drop j)[0]? = some x:=by rw[ha4,anm,amJ]; exact hx
     rw[anm,amJ]at e1;exact e1
    have HY:cur.drop (j+1)=xs.drop (j+1):=by have:=amL List.tail ha4;simpa using this
    have mR:lj cur ((id,()),()) (i:Int) (j:Int)=some (.inl (bif cj id x then (cur.set i x,((id,()),()),((i+1:Nat):Int),((j+1:Nat):Int),())else (cur,((id,()),()),(i:Int),((j+1:Nat):Int),()))):=by
     unfold lj SL cj;have hi:i<cur.length:=by omega
     have Iq:cur=cur.take i++cur[i]::cur.drop (i+1):=by rw[<- aoo hi,an9]
     have Ft:(cur.take i).length=i:=by rw[am5]; omega
     rw[aL ye,aD ye,aM _ ye,im hi,aU (show j<=bQ by omega),aU (show i<=bQ by omega)];dsimp only[oT,oB];cases bF x.1 id with
     | true=>rfl
     | false =>
       try dsimp only[oT,oF,oN,oM]
       generalize hci:cur[i]=ci at Iq;generalize hD:cur.drop (i+1)=D at Iq;generalize hT:cur.take i=T at Iq Ft;rw[Iq];simp only[mr _ Ft,eu Ft,Lf Ft];try rfl
    cases Yp:cj id x with
    | true =>
      rw[Yp]at mR;refine⟨(cur.set i x,i+1),mR,by simp[Ck],by omega,?_,?_⟩
      . show(cur.set i x).take (i+1)=_;have hi:i<cur.length:=by omega
        rw[anE,aoT hi,List.take_set_of_le (oR _),ha3,anE,hx];simp[anX,Yp]
      . show(cur.set i x).drop (j+1)=_;rw[List.drop_set_of_lt (by omega),HY]
    | false =>
      rw[Yp]at mR;refine⟨(cur,i),mR,Ck,by omega,?_,HY⟩;show cur.take i=_;rw[ha3,anE,hx];simp[anX,Yp]) (fun a ha=>by
    show lj a.1 ((id,()),()) (a.2:Int) (xs.length:Int)=_;unfold lj;rw[aA ha.1];try rfl) (xs.length-(k+1)) (k+1) (xs,k) (by omega) ⟨rfl,by omega,by
    show xs.take k=_;have Dt:cj id x0=false:=by simpa using h3
    rw[anE,h2,anX,h4];simp[Dt],rfl⟩
   obtain⟨i1,i2,i3,_⟩:=hI;simp only at i1 i2 i3;have Mh:uK xs ((id,()),()) (k:Int) ((k+1:Nat):Int)=some (.inl (cur,((id,()),()),(i:Int),(xs.length:Int),())):=hl;rw[Mh];dsimp only[oB,oL];have c1:eV (i:Int) (ae cur) cur=true:=by unfold eV jN ck ae;rw[amg (by omega),amg (by omega),amg (by omega)];try rfl
   have c0:(nJ ([],0,0,()) cur (i:Int))=cur.take i++List.replicate (cur.length-i) ([],0,0,()):=by unfold nJ UZ; simp
   have c3:XE (nJ d192 cur (i:Int)) (i:Int)=cur.take i:=by
    show XE (nJ ([],0,0,()) cur (i:Int)) (i:Int)=_;rw[c0]; unfold XE;have:(cur.take i).length=i:=by rw[am5]; omega
    simp only[ank];rw[aoe (by omega),anQ (by omega)]
   have c2:eV 0 (i:Int) (nJ d192 cur (i:Int))=true:=by show eV 0 (i:Int) (nJ ([],0,0,()) cur (i:Int))=true;rw[c0]; exact kA (by simp; omega)
   rw[c1];dsimp only[oT];rw[c2,c3,i3,aoD];try rfl
theorem El(xs:List aO)(id:S8)(hs:xs.length<=1048576):DY xs id=zR (xs.filter (cj id)):=by have bp:=bk;unfold DY EE;rw[jh (by omega)];dsimp only[oT,oB];rw[E1 xs id hs];try rfl
def np(h x:aO):Bool:=BR x.1 h.1
theorem HD{h x:aO}(hl:np h x=true):cj h.1 x=true:=by
 unfold np BR at hl;unfold cj bF;by_cases e:x.1=h.1
 . rw[e,Gs]at hl; simp at hl
 . simp[e]
def jX(xs:List aO)(h:aO):List aO:=xs.takeWhile (np h)++h::(xs.dropWhile (np h)).filter (cj h.1)
def eS(xs:List aO)(h:aO):List aO×Bool:=cond (dm xs) (cond (dm (jX xs h)) (jX xs h,true) ([],false)) ([],false)
theorem xL{h:aO}:∀ {xs:List aO},(xs.Pairwise fun a b=>BR a.1 b.1=true)->(xs.filter (cj h.1)).takeWhile (np h)=xs.takeWhile (np h)/\(xs.filter (cj h.1)).dropWhile (np h)=(xs.dropWhile (np h)).filter (cj h.1)
 | [],_=>⟨rfl,rfl⟩
 | x::r,hp=>by
   obtain⟨h1,h2⟩:=List.pairwise_cons.1 hp;cases hx:np h x with
   | true => obtain⟨i1,i2⟩:=xL h2;rw[am6,if_pos (HD hx),anC,anC,anR,anR,hx];simp only[if_true];exact⟨by rw[i1],i2⟩
   | false =>
     have BK:∀ y∈(x::r).filter (cj h.1),np h y=false:=fun y hy=>by
      rcases amo.1 (ans.1 hy).1 with e | e
      . subst e; exact hx
      . cases hyl:np h y with
        | false=>rfl
        | true => have:=tQ _ _ _ (h1 y e) hyl;unfold np BR at hx;rw[this]at hx;simp at hx
     have hF:∀ F:List aO,(∀ y∈F,np h y=false)->F.takeWhile (np h)=[]/\F.dropWhile (np h)=F:=fun F hF=>by
      cases F with
      | nil=>exact⟨rfl,rfl⟩
      | cons y F=>rw[anC,anR,hF y (amz ..)]; exact⟨rfl,rfl⟩
     obtain⟨f1,f2⟩:=hF _ BK;rw[f1,f2,anC,anR,hx];exact⟨rfl,rfl⟩
def ke(h x:aO)(a:List aO×Bool):List aO×Bool:=((cond (cond (!a.2) (!np h x) false) (a.1++[h]) a.1)++(cond (cj h.1 x) [x] []),cond (cond (!a.2) (!np h x) false) true a.2)
theorem Ho{h:aO}:∀(xs:List aO) (out:List aO),xs.foldl (fun a x=>ke h x a) (out,true)=(out++xs.filter (cj h.1),true)
 | [],out=>by simp
 | x::r,out=>by rw[am7,am6];have:ke h x (out,true)=(out++(cond (cj h.1 x) [x] []),true):=rfl;rw[this,Ho r];cases cj h.1 x <;> simp
theorem GN{h:aO}:∀(xs:List aO) (out:List aO),xs.foldl (fun a x=>ke h x a) (out,false)=(if xs.all (np h)then (out++xs,false)else (out++jX xs h,true))
 | [],out=>by simp
 | x::r,out=>by
   rw[am7,am8];cases hx:np h x with
   | true =>
     have:ke h x (out,false)=(out++[x],false):=by unfold ke; simp only[hx,HD hx];try rfl
     rw[this,GN r];have hp:jX (x::r) h=x::jX r h:=by unfold jX; rw[anC,anR,hx];try rfl
     rw[hp];simp only[aod,amD,aoa]
   | false =>
     have:ke h x (out,false)=(out++[h]++(cond (cj h.1 x) [x] []),true):=by unfold ke; simp only[hx];try rfl
     rw[this,Ho];have hp:jX (x::r) h=h::(x::r).filter (cj h.1):=by unfold jX; rw[anC,anR,hx];try rfl
     rw[hp,am6];cases cj h.1 x <;> simp
theorem Qi{h:aO}{xs:List aO}(ha:xs.all (np h)=true):jX xs h=xs++[h]:=by
 have:=amx.1 ha;have e1:∀ ys:List aO,(∀ y∈ys,np h y=true)->ys.takeWhile (np h)=ys/\ys.dropWhile (np h)=[]:=by
  intro ys;induction ys with
  | nil=>intro _; exact⟨rfl,rfl⟩
  | cons y ys ih =>
    intro hy;obtain⟨i1,i2⟩:=ih fun z hz=>hy z (amt _ hz)
    rw[anC,anR,hy y (amz ..)];exact⟨by simp[i1],by simp[i2]⟩
 obtain⟨f1,f2⟩:=e1 xs this;unfold jX;rw[f1,f2];try rfl
theorem LG(xs:List aO)(h:aO):(jX xs h).length<=xs.length+1:=by
 unfold jX;have h1:=am4 (cj h.1) (xs.dropWhile (np h));have h2:(xs.takeWhile (np h)).length+(xs.dropWhile (np h)).length=xs.length:=by rw[<- amf,aoW]
 simp only[amf,ams];omega
theorem XV{xs:List aO}{h y:aO}(hy:y∈jX xs h):y=h∨y∈xs:=by
 unfold jX at hy;rcases anA.1 hy with hy | hy
 . exact .inr ((List.takeWhile_prefix _).subset hy)
 . rcases amo.1 hy with hy | hy
   . exact .inl hy
   . exact .inr ((List.dropWhile_suffix _).subset (ans.1 hy).1)
theorem ZA{xs:List aO}{h:aO}(hb:tE xs)(hl:xs.length<=1048576)(hh:h.1.length<=bQ):tE (jX xs h):=by
 have bp:=bk;refine⟨by have:=LG xs h; omega,fun y hy => ?_⟩;rcases XV hy with e | e
 . rw[e]; exact hh
 . exact hb.2 y e
theorem ZH(xs:List aO)(h:aO)(hb:tE xs)(hl:xs.length<=1048576)(hh:h.1.length<=bQ):SZ xs h=some ((),(((eS xs h).1,()),((eS xs h).2,()),())):=by
 have bp:=bk;unfold SZ eS;rw[EC xs hb];dsimp only[oB];cases hm:dm xs with
 | false=>rfl
 | true =>
   have hl4:=pC hm;simp only[oT,oN,oF];have hp:=EC (jX xs h) (ZA hb hl hh);have h':=aP (step:=Fk sq) xs (fun i (a:List aO×Bool)=>(a.1,a.2,xs,ae xs,((i:Nat):Int),h,())) (fun _ x a=>Sum.inl (ke h x a)) (fun a=> .inl (a.1,a.2,xs,ae xs,(xs.length:Int),h,())) (fun i a=>a.1.length<=2 * i) (a0:=([],false)) (oR _) (fun i x a hx ha=>by
    have aV:=ah hx;show sq a.1 a.2 xs (ae xs) (i:Int) h=_;have e:∀(o:List aO) (y:aO),o.length<=100->bl 32 o [y]=true:=fun o y ho=>amm (by simp; omega)
    have e1:=e a.1 h (by omega);have e2:=e a.1 x (by omega);have e3:=e (fQ a.1 [h]) x (by unfold fQ; simp; omega);unfold sq ke;rw[aL hx,aD hx,aU (by omega)];dsimp only[oT];have eg:gt d192 xs (i:Int)=x:=aM _ hx;rw[eg];have q1:np h x=BR x.1 h.1:=rfl;have q2:cj h.1 x= !bF x.1 h.1:=rfl;rw[q1,q2,e1,e2,e3];cases a.2 <;> cases BR x.1 h.1 <;> cases bF x.1 h.1 <;> simp[fQ]) (fun i x a a' hx ha hf=>by
    simp only[amu]at hf;rw[<- hf];unfold ke;cases(cond (!a.2) (!np h x) false) <;> cases cj h.1 x <;> simp <;> omega) (fun a ha=>by
    show sq a.1 a.2 xs (ae xs) (xs.length:Int) h=_;unfold sq;rw[aA rfl];try rfl)
   rw[bS (fun x a=>ke h x a),GN]at h';have h'':Tn [] false xs (ae xs) 0 h=_:=h';rw[h''];by_cases ha:xs.all (np h)=true
   . rw[if_pos ha];simp only[oB,oL,an1,oM,oT];have e1:bl 32 xs [h]=true:=amm (by simp; omega);have e2:fQ xs [h]=jX xs h:=(Qi ha).symm;rw[e1,e2,hp];simp only[oT,oB];cases dm (jX xs h) <;> rfl
   . rw[if_neg ha];simp only[oB,oL,an1,oN,oF];rw[hp];simp only[oB];cases dm (jX xs h) <;> rfl
theorem SK{α Y:Type}(p:α->Bool)(y:Nat->Y):∀(xs:List α) (i n:Nat),n=i+xs.length->kR (fun i x (_:Unit)=>bif p x then Sum.inl ()else .inr (y i)) (fun _=>y n) i xs ()=y (i+(xs.takeWhile p).length)
 | [],i,n,h=>by simp at h; subst h; simp[kR]
 | x::r,i,n,h=>by
   rw[kR,anC];cases hp:p x with
   | true => simp only[oT,if_true];rw[SK p y r (i+1) n (by simp only[ams]at h; omega)];congr 1;simp only[ams]; omega
   | false=>simp
theorem KQ{α:Type}(p:α->Bool):∀(xs:List α),xs.take (xs.takeWhile p).length=xs.takeWhile p/\xs.drop (xs.takeWhile p).length=xs.dropWhile p
 | []=>⟨rfl,rfl⟩
 | x::r=>by
   rw[anC,anR];cases hp:p x with
   | true=>obtain⟨h1,h2⟩:=KQ p r; simp only[if_true,ams,ao4,List.drop_succ_cons]; exact⟨by rw[h1],h2⟩
   | false=>exact⟨rfl,rfl⟩
theorem aam(xs:List aO)(h:aO)(hb:tE xs)(hl:xs.length<=1048576)(hh:h.1.length<=bQ):QD xs h=some ((),(((eS xs h).1,()),((eS xs h).2,()),())):=by
 have bp:=bk;unfold QD eS;rw[DD xs hb,El xs h.1 hl];dsimp only[oB];cases hm:dm xs with
 | false=>rfl
 | true =>
   have hl4:=pC hm;simp only[oT,oN,oF];have hp:=DD (jX xs h) (ZA hb hl hh);obtain⟨s1,s2⟩:=xL (h:=h) (rS hm);have hFl:=am4 (cj h.1) xs;generalize hF:xs.filter (cj h.1)=F at s1 s2 hFl;obtain⟨t1,t2⟩:=KQ (np h) F;have Ft:(F.takeWhile (np h)).length<=F.length:=(List.takeWhile_prefix _).length_le;have h':=aS (step:=fE uf) F (fun i (_:Unit)=>(F,((i:Nat):Int),h,())) (fun i x _=>bif np h x then Sum.inl ()else .inr (.inl (F,((i:Nat):Int),h,()))) (fun _=> .inl (F,(F.length:Int),h,())) (a0:=()) (fun i x a hx=>by
    have aV:=ah hx;show uf F (i:Int) h=_;have eg:gt d192 F (i:Int)=x:=aM _ hx;have q1:np h x=BR x.1 h.1:=rfl;unfold uf;rw[aL hx,aD hx,aU (by omega),eg,q1];dsimp only[oT];cases BR x.1 h.1 <;> rfl) (fun a=>by
    show uf F (F.length:Int) h=_;unfold uf;rw[aA rfl];try rfl)
   rw[SK (np h) (fun i=>Sum.inl (F,((i:Nat):Int),h,())) F 0 F.length (by omega),amp]at h';have h'':QV F 0 h=_:=h';rw[h''];simp only[oB,oL];have hi:We F ((F.takeWhile (np h)).length:Int) [h]=zR (jX xs h):=by unfold We Rf;have e1:ck 0 ((F.takeWhile (np h)).length:Int)=true:=amg (Int.natCast_nonneg _);have e2:ck ((F.takeWhile (np h)).length:Int) (F.length:Int)=true:=amg (by omega);have e3:Nat.ble ((F.length+[h].length) * 32) bQ=true:=amm (by simp; omega);rw[e1,e2,e3];simp only[Bool.and_self,oT,ank];rw[t1,t2,s1,s2];unfold jX;simp
   rw[hi];simp only[oB];rw[hp];simp only[oB];cases dm (jX xs h) <;> rfl
theorem JY(xs:List aO)(id:S8)(hs:xs.length<=1048576):IU xs id=zR (xs.filter (cj id)):=by
 have bp:=bk;unfold IU;have h:=aP (step:=pZ se) xs (fun i (a:List aO)=>(id,a,xs,ae xs,((i:Nat):Int),())) (fun _ x a=>Sum.inl (bif cj id x then a++[x]else a)) (fun a=> .inl (id,a,xs,ae xs,(xs.length:Int),())) (fun i a=>a.length<=i) (a0:=[]) (oR _) (fun i x a hx ha=>by
  have aV:=ah hx;show se id a xs (ae xs) (i:Int)=_;unfold se cj;have e:∀ y:aO,bl 32 a [y]=true:=fun y=>amm (by simp; omega)
  rw[aL hx,aD hx,aM _ hx];dsimp only[oT,oB];rw[e,aU (by omega)];cases bF x.1 id <;> rfl) (fun i x a a' hx ha hf=>by
  simp only[amu]at hf;rw[<- hf];cases cj id x with
  | true=>simp; omega
  | false=>simp; omega) (fun a ha=>by
  show se id a xs (ae xs) (xs.length:Int)=_;unfold se;rw[aA rfl];try rfl)
 rw[sg]at h;have h':Pm id [] xs (ae xs) 0=_:=h;rw[h'];try rfl
def lP(a:ax)(id:S8)(bJ ny now:Int):ax×Int :=
 cond (cond (bo a) (cond (bh now) (bm id) false) false)
  (cond (da bJ 1 9007199254740992)
    (cond (cond (!da ny 1 9999) true (aE 1000000000 (ak .i64 now ny))) (aK,4)
      (cond (ck 0 (az (aC a now).2.2.2.2.2.1 id)) (aK,6)
        (cond (aj (ae (aC a now).2.2.2.2.2.1) 4) (aK,10)
          (cond (aj (hE (aC a now) bJ now) 0)
            (((aC a now).1,(aC a now).2.1,(aC a now).2.2.1,(aC a now).2.2.2.1,(aC a now).2.2.2.2.1,
              (eS (aC a now).2.2.2.2.2.1 (id,bJ,ak .i64 now ny,())).1,
              (du (dw (aC a now)) now bJ).1,(du (dw (aC a now)) now bJ).2.1,(du (dw (aC a now)) now bJ).2.2.1,(du (dw (aC a now)) now bJ).2.2.2.1,(aC a now).2.2.2.2.2.2.2.2.2.2.1,()),0)
            (aK,hE (aC a now) bJ now)))))
    (aK,4))
  (aK,1)
theorem acz(a:ax)(id:S8)(bJ ny now:Int)(hb:bK a)(hi:id.length<=1048576):Vl a id bJ ny now=some ((),((lP a id bJ ny now).1,((lP a id bJ ny now).2,()),())):=by
 have eD:=dS now hb;unfold Vl z7 lP;rw[mI a hb,iO,l7 id (cg hi),oI,oI,pK a now hb];dsimp only[oB];generalize aC a now=s at eD ⊢;have h1:Jj (s.2.2.2.2.2.2.1,s.2.2.2.2.2.2.2.1,s.2.2.2.2.2.2.2.2.1,s.2.2.2.2.2.2.2.2.2.1,()) now bJ=_:=Dg (dw s) now bJ eD.2.2.1;rw[nT _ id eD.2.1.1,To s bJ now eD,ZH _ (id,bJ,ak .i64 now ny,()) eD.hs eD.2.1.1 (cg hi)];dsimp only[oB];rw[h1];cases bo a <;> first | rfl | skip
 cases bh now <;> first | rfl | skip
 cases bm id <;> first | rfl | skip
 cases da bJ 1 9007199254740992 <;> first | rfl | skip
 dsimp only[oT,oF,oN,oB];cases(cond (!da ny 1 9999) true (aE 1000000000 (ak .i64 now ny))) <;> first | rfl | skip
 dsimp only[oT,oF,oN,oB];cases ck 0 (az s.2.2.2.2.2.1 id) <;> first | rfl | skip
 cases aj (ae s.2.2.2.2.2.1) 4 <;> first | rfl | skip
 dsimp only[oT,oF,oN,oB];cases aj (hE s bJ now) 0 <;> rfl
theorem aca(a:ax)(id:S8)(bJ ny now:Int)(hb:bK a)(hi:id.length<=1048576):QQ a id bJ ny now=some ((),((lP a id bJ ny now).1,((lP a id bJ ny now).2,()),())):=by
 have eD:=dS now hb;unfold QQ vH lP;rw[nC a hb,iP,l8 id (cg hi),lC,lC,nq a now hb];dsimp only[oB];generalize aC a now=s at eD ⊢;have h1:Eh (s.2.2.2.2.2.2.1,s.2.2.2.2.2.2.2.1,s.2.2.2.2.2.2.2.2.1,s.2.2.2.2.2.2.2.2.2.1,()) now bJ=_:=Cl (dw s) now bJ eD.2.2.1;have h2:=jd s.2.2.2.2.2.1 id eD.2.1.1;have h3:=SR s bJ now eD;have h4:=aam s.2.2.2.2.2.1 (id,bJ,ak .i64 now ny,()) eD.hs eD.2.1.1 (cg hi);cases bo a <;> first | rfl | skip
 cases bh now <;> first | rfl | skip
 have Mr:aj 0 0=true:=rfl;simp only[oT,oF,oN,oM,oB,Mr];cases bm id <;> first | rfl | skip
 cases da bJ 1 9007199254740992 <;> first | rfl | skip
 simp only[oT,oF,oN,oM,oB];cases(cond (!da ny 1 9999) true (aE 1000000000 (ak .i64 now ny))) <;> first | rfl | skip
 simp only[oT,oF,oN,oM,oB];rw[h2,h3,h4];dsimp only[oB];rw[h1];cases ck 0 (az s.2.2.2.2.2.1 id) <;> first | rfl | skip
 cases aj (ae s.2.2.2.2.2.1) 4 <;> first | rfl | skip
 dsimp only[oT,oF,oN,oB];cases aj (hE s bJ now) 0 <;> rfl
def J1(a:ax)(l:List aO):ax:=(a.1,a.2.1,a.2.2.1,a.2.2.2.1,a.2.2.2.2.1,l,a.2.2.2.2.2.2.1,a.2.2.2.2.2.2.2.1,a.2.2.2.2.2.2.2.2.1,a.2.2.2.2.2.2.2.2.2.1,a.2.2.2.2.2.2.2.2.2.2.1,())
def pY:aO:=([],0,0,())
def gr(a b:ax)(id:S8)(now:Int):ax×ax×Int :=
 cond (cond (bo a) (cond (bh now) (bm id) false) false)
  (cond (bo b)
    (cond (bF a.1 b.1) (aK,aK,4)
      (cond (aE (az (aC a now).2.2.2.2.2.1 id) 0) (aK,aK,5)
        (cond (ck 0 (az (aC b now).2.2.2.2.2.1 id)) (aK,aK,6)
          (cond (aj (ae (aC b now).2.2.2.2.2.1) 4) (aK,aK,10)
            (cond (aE (hO (aC b now) now) (gt pY (aC a now).2.2.2.2.2.1 (az (aC a now).2.2.2.2.2.1 id)).2.1) (aK,aK,7)
              (J1 (aC a now) ((aC a now).2.2.2.2.2.1.filter (cj id)),J1 (aC b now) (eS (aC b now).2.2.2.2.2.1 (gt pY (aC a now).2.2.2.2.2.1 (az (aC a now).2.2.2.2.2.1 id))).1,0))))))
    (aK,aK,1))
  (aK,aK,1)
theorem Gu{xs:List aO}{k:Int}(hb:∀ y∈xs,y.1.length<=1048576):(gt pY xs k).1.length<=1048576:=by
 unfold gt;rw[ang];cases h:xs[k.toNat]? with
 | none=>exact amr _
 | some y=>exact hb y (amk h)
theorem acs(a b:ax)(id:S8)(now:Int)(hb:bK a)(hc:bK b)(hi:id.length<=1048576):Rl a b id now=some ((),((gr a b id now).1,((gr a b id now).2.1,((gr a b id now).2.2,()),()))):=by
 have eD:=dS now hb;have Ic:=dS now hc;unfold Rl z7 gr;rw[mI a hb,iO,l7 id (cg hi),mI b hc,pK a now hb,pK b now hc];dsimp only[oB];generalize aC a now=s at eD ⊢;generalize aC b now=t at Ic ⊢;rw[nT _ id eD.2.1.1,nT _ id Ic.2.1.1,JI t now Ic,JY _ id eD.2.1.1];dsimp only[oB];have hgt:∀ k:Int,gt d192 s.2.2.2.2.2.1 k=gt pY s.2.2.2.2.2.1 k:=fun _=>rfl
 rw[hgt,ZH _ _ Ic.hs Ic.2.1.1 (cg (Gu eD.2.1.2))];dsimp only[oB];cases bo a <;> first | rfl | skip
 cases bh now <;> first | rfl | skip
 cases bm id <;> first | rfl | skip
 cases bo b <;> first | rfl | skip
 cases bF a.1 b.1 <;> first | rfl | skip
 by_cases ll:az s.2.2.2.2.2.1 id<0
 . rw[aR ll];try rfl
 . rw[aF ll,jQ ll];cases ck 0 (az t.2.2.2.2.2.1 id) <;> first | rfl | skip
   cases aj (ae t.2.2.2.2.2.1) 4 <;> first | rfl | skip
   dsimp only[oT,oF,oN,oB];cases aE (hO t now) (gt pY s.2.2.2.2.2.1 (az s.2.2.2.2.2.1 id)).2.1 <;> rfl
theorem abh(a b:ax)(id:S8)(now:Int)(hb:bK a)(hc:bK b)(hi:id.length<=1048576):OE a b id now=some ((),((gr a b id now).1,((gr a b id now).2.1,((gr a b id now).2.2,()),()))):=by
 have eD:=dS now hb;have Ic:=dS now hc;unfold OE vH gr;rw[nC a hb,iP,l8 id (cg hi),nC b hc,nq a now hb,nq b now hc];dsimp only[oB];generalize aC a now=s at eD ⊢;generalize aC b now=t at Ic ⊢;have h0:=jd [] id (by decide);have h1:=jd s.2.2.2.2.2.1 id eD.2.1.1;have h2:=jd t.2.2.2.2.2.1 id Ic.2.1.1;have h3:=JE t now Ic;have h4:=El s.2.2.2.2.2.1 id eD.2.1.1;have hgt:∀ k:Int,gt d192 s.2.2.2.2.2.1 k=gt pY s.2.2.2.2.2.1 k:=fun _=>rfl
 have h5:=aam t.2.2.2.2.2.1 (gt pY s.2.2.2.2.2.1 (az s.2.2.2.2.2.1 id)) Ic.hs Ic.2.1.1 (cg (Gu eD.2.1.2));have Mr:aj 0 0=true:=rfl;have e10:aj 1 0=false:=rfl;cases bo a with
 | false => simp only[oT,oF,oN,oM,oB,Mr,e10];cases bo b <;> cases bh now <;> (simp only[oT,oF,oN,oM,oB,h0];try rfl)
 | true =>
 cases bh now with
 | false => cases bo b <;> (simp only[oT,oF,oN,oM,oB,h0];try rfl)
 | true =>
 cases bo b with
 | false => simp only[oT,oF,oN,oM,oB,h1,Mr,e10];cases bm id <;> rfl
 | true =>
 simp only[oT,oF,oN,oM,oB,h1,h2,h3,h4,Mr,e10,hgt,h5];cases bm id <;> first | rfl | skip
 cases bF a.1 b.1 <;> first | rfl | skip
 by_cases ll:az s.2.2.2.2.2.1 id<0
 . rw[aR ll];try rfl
 . rw[aF ll,jQ ll];cases ck 0 (az t.2.2.2.2.2.1 id) <;> first | rfl | skip
   cases aj (ae t.2.2.2.2.2.1) 4 <;> first | rfl | skip
   simp only[oT,oF,oN,oM,oB];cases aE (hO t now) (gt pY s.2.2.2.2.2.1 (az s.2.2.2.2.2.1 id)).2.1 <;> rfl
theorem afF(d:Nat)(h:d<=9):strOf [(dC .u8 (ak .i64 48 (d:Int)),())]=[UInt8.ofNat (48+d)]:=by
 rw[bd (by omega) (by omega)];have:dC .u8 (48+(d:Int))=48+(d:Int):=by unfold dC; rw[IntKind.wrap_u8]; omega
 rw[this];show [UInt8.ofNat (Int.toNat (48+(d:Int)))]=_;rw[show Int.toNat (48+(d:Int))=48+d by omega]
theorem ni{s t:S8}(h:s.length+t.length<=bQ):jL s t=true:=amm h
theorem WW{u:Nat}(h:u<18446744073709551616):(Lib.decDigits u).length<=20:=by rw[Lib.decDigits_length]; exact Lib.nDigits_le20 u h
theorem Lw:∀(f u:Nat) (s:S8),u<=f->u<=4611686018427387904->(Lib.decDigits u).length+s.length<=40->∃(u':Nat) (s':S8),PG (u:Int) s=some (.inl ((u':Int),s',()))/\u'<=9/\UInt8.ofNat (48+u')::s'=Lib.decDigits u++s
 | 0,u,s,hf,hm,hl=>by
   refine⟨u,s,dK _ ?_,by omega,?_⟩
   . show qJ (u:Int) s=_;unfold qJ;rw[aF (by omega)];try rfl
   . rw[Lib.decDigits,dif_pos (by omega)];try rfl
 | f+1,u,s,hf,hm,hl=>by
   by_cases hu:u<10
   . refine⟨u,s,dK _ ?_,by omega,?_⟩
     . show qJ (u:Int) s=_;unfold qJ;rw[aF (by omega)];try rfl
     . rw[Lib.decDigits,dif_pos hu];try rfl
   . have hd:Lib.decDigits u=Lib.decDigits (u / 10)++[UInt8.ofNat (48+u % 10)]:=by rw[Lib.decDigits,dif_neg hu]
     have bp:=bk;have Mm:(Lib.decDigits (u / 10)).length+(UInt8.ofNat (48+u % 10)::s).length<=40:=by rw[hd,amf]at hl;simp only[ams,amZ]at hl ⊢;omega
     obtain⟨u',s',h1,h2,h3⟩:=Lw f (u / 10) (UInt8.ofNat (48+u % 10)::s) (by omega) (by omega) Mm;refine⟨u',s',ez _ (x':=(((u / 10:Nat):Int),UInt8.ofNat (48+u % 10)::s,())) ?_ h1,h2,by rw[h3,hd,amD];try rfl⟩;show qJ (u:Int) s=_;unfold qJ;have hr:eH (u:Int) 10=((u % 10:Nat):Int):=by unfold eH;rw[anw (by omega)];omega
     have hq:kq .i64 (u:Int) 10=((u / 10:Nat):Int):=by unfold kq;rw[anO (by omega),IntKind.wrap_i64];omega
     rw[aR (by omega),hr,hq,afF _ (by omega)];dsimp only[oT];rw[ni (by simp only[ams,amZ]; omega)];try rfl
def abP(n:Int):S8:=cond (bY n) (Lib.itoa n) []
theorem aed(n:Int):VW n=zR (abP n):=by
 have bp:=bk;unfold VW abP;rw[pf];dsimp only[oB];cases hm:bY n with
 | false=>rfl
 | true => have hb:=bB.1 hm;obtain⟨u,rfl⟩:∃ u:Nat,n=u:=⟨n.toNat,by omega⟩;have hlen:=WW (u:=u) (by omega);obtain⟨u',s',h1,h2,h3⟩:=Lw u u [] (oR _) (by omega) (by simp only[amZ]; omega);refine(bn h1).trans ?_;show cond (jL (strOf [(dC .u8 (ak .i64 48 (u':Int)),())]) s') (zR (uy (strOf [(dC .u8 (ak .i64 48 (u':Int)),())]) s')) none=_;rw[afF _ h2];have hl:=amL List.length h3;simp only[ams,amV]at hl h3;rw[ni (by simp only[ams,amZ]; omega)];rw[Lib.itoa_nonneg,<- h3];try rfl
theorem DQ(x:UInt8):∀ n:Nat,Lib.repeatL [x] n=List.replicate n x
 | 0=>rfl
 | n+1=>by rw[Lib.repeatL,DQ x n];try rfl
def et(n w:Int):S8:=cond (bY n&&da w 1 18&&ck (ae (Lib.itoa n)) w) (List.replicate (w-ae (Lib.itoa n)).toNat 48++Lib.itoa n) []
theorem Hj(w:Nat)(hw:w<=18):∀(d:Nat) (s:S8),s.length+d=w->Qm (w:Int) s=some (.inl ((w:Int),List.replicate d 48++s,()))
 | 0,s,h=>by refine dK _ ?_;show w7 (w:Int) s=_;unfold w7;rw[aF (by unfold ae; omega)];try rfl
 | d+1,s,h=>by
   have bp:=bk;have ih:=Hj w hw d (48::s) (by simp only[ams]; omega);have e:List.replicate (d+1) (48:UInt8)++s=List.replicate d 48++(48::s):=by rw[List.replicate_succ',amD];try rfl
   rw[e];refine ez _ (x':=((w:Int),48::s,())) ?_ ih;show w7 (w:Int) s=_;unfold w7;rw[aR (by unfold ae; omega),ni (by simp only[ams,amZ]; omega)];try rfl
theorem Qv{n:Int}(h:0<=n):1<=(Lib.itoa n).length:=by obtain⟨u,rfl⟩:∃ u:Nat,n=u:=⟨n.toNat,by omega⟩;rw[Lib.itoa_nonneg,Lib.decDigits_length]; exact Lib.nDigits_pos u
theorem IH(n w:Int):MZ n w=zR (et n w):=by
 unfold MZ et;rw[aed];dsimp only[oB];unfold abP;cases hm:bY n with
 | false=>rfl
 | true =>
   have hb:=bB.1 hm;have hp:=Qv hb.1;have he:bF (Lib.itoa n) []=false:=by
    cases hi:Lib.itoa n with
    | nil=>rw[hi]at hp; simp at hp
    | cons x r=>rfl
   rw[oT,he];dsimp only[oF,Bool.true_and];by_cases h1:w<1
   . rw[aR h1,show da w 1 18=false by unfold da ck; rw[amB (by omega)];try rfl];try rfl
   . by_cases h2:18<w
     . rw[aF h1,aR h2,show da w 1 18=false by unfold da ck; rw[amg (show(1:Int)<=w by omega),amB (by omega)];try rfl];try rfl
     . rw[aF h1,aF h2,bB.2 ⟨by omega,by omega⟩];dsimp only[oF,Bool.true_and];by_cases h3:w<ae (Lib.itoa n)
       . rw[aR h3,show ck (ae (Lib.itoa n)) w=false from amB (by omega)];try rfl
       . rw[aF h3,show ck (ae (Lib.itoa n)) w=true from amg (by omega)];obtain⟨W,rfl⟩:∃ W:Nat,w=W:=⟨w.toNat,by omega⟩;have h3:(Lib.itoa n).length<=W:=by unfold ae at h3; omega
         have:=Hj W (by omega) (W-(Lib.itoa n).length) (Lib.itoa n) (by omega);dsimp only[oF,oT];rw[this];dsimp only[oB,oL];rw[show((W:Int)-ae (Lib.itoa n)).toNat=W-(Lib.itoa n).length by unfold ae; omega];try rfl
theorem PU{n:Int}(h:4611686018427387904<n)(h2:n<=9223372036854775807):(Lib.itoa n).length=19:=by obtain⟨u,rfl⟩:∃ u:Nat,n=u:=⟨n.toNat,by omega⟩;rw[Lib.itoa_nonneg,Lib.decDigits_length];exact Lib.nDigits_unique 18 u (by omega) (by omega)
theorem IB(n w:Int)(hn : -9223372036854775808<=n/\n<=9223372036854775807):Ns n w=zR (et n w):=by
 have bp:=bk;unfold Ns acW LU et;dsimp only[oB];rw[lC];by_cases h0:n<0
 . rw[aR h0,show bY n=false by unfold bY da ck; rw[amB (by omega)];try rfl];try rfl
 rw[aF h0];dsimp only[oF,oB];cases hw:da w 1 18 with
 | false=>rw[Bool.and_false];try rfl
 | true =>
   have hwb:=bB.1 hw;rw[aoU];by_cases h3:w<ae (Lib.itoa n)
   . rw[aR h3,show ck (ae (Lib.itoa n)) w=false from amB (by omega),Bool.and_false];try rfl
   . have hm:bY n=true:=by
      by_cases hh:4611686018427387904<n
      . have:=PU hh hn.2;unfold ae at h3; omega
      . exact bB.2 ⟨by omega,by omega⟩
     have hlen:(Lib.itoa n).length<=18:=by unfold ae at h3; omega
     rw[aF h3,hm,show ck (ae (Lib.itoa n)) w=true from amg (by omega)];have hs:bf .i64 w (ae (Lib.itoa n))=w-ae (Lib.itoa n):=bI (by unfold ae; omega) (by unfold ae; omega);rw[hs];unfold Jk rC;rw[show ck 0 (w-ae (Lib.itoa n))=true from amg (by omega),show Nat.ble (([48]:S8).length * (w-ae (Lib.itoa n)).toNat) bQ=true from amm (by simp only[ams,amZ]; unfold ae; omega)];show cond (jL (Lib.repeatL [48] (w-ae (Lib.itoa n)).toNat) (Lib.itoa n)) (zR (uy (Lib.repeatL [48] (w-ae (Lib.itoa n)).toNat) (Lib.itoa n))) none=_;rw[DQ,ni (by simp only[ann]; unfold ae; omega)];try rfl
theorem jO(n w:Int):(et n w).length<=18:=by
 unfold et;cases hc:bY n&&da w 1 18&&ck (ae (Lib.itoa n)) w with
 | false=>simp
 | true => simp only[ame]at hc;have h1:=bB.1 hc.1.2;have h2:ae (Lib.itoa n)<=w:=ana hc.2;simp only[oT,amf,ann];unfold ae at h2 ⊢; omega
theorem Rr{a b x:Int}(h0:0<=a)(h:a<=b)(hb:b<=4611686018427387904):fj a x<=fj b x:=by
 have hx:=iF x;generalize ye:ej x=c at hx;have e1:ej a=a:=by unfold ej; rw[if_neg (by omega),if_neg (by omega)]
 have e2:ej b=b:=by unfold ej; rw[if_neg (by omega),if_neg (by omega)]
 unfold fj; rw[e1,e2,ye]; split <;> split <;> omega
theorem ac9{a x:Int}(h0:0<=a)(hb:a<=4611686018427387904):a<=fj a x:=by
 have:=iF x;have e1:ej a=a:=by unfold ej; rw[if_neg (by omega),if_neg (by omega)]
 unfold fj; rw[e1]; split <;> omega
theorem fold_filter(p:aO->Bool):∀(xs:List aO) (a b:Int),0<=a->a<=b->b<=4611686018427387904->(xs.filter p).foldl (fun a h=>fj a h.2.1) a<=xs.foldl (fun a h=>fj a h.2.1) b
 | [],_,_,_,h,_=>h
 | x::r,a,b,h0,h,hb=>by
   have e1:=yy b x.2.1;have e2:=yy a x.2.1;have e3:=Rr (x:=x.2.1) h0 h hb;have e4:=ac9 (x:=x.2.1) (show 0<=b by omega) hb;rw[am6];split
   . exact fold_filter p r _ _ e2.1 e3 e1.2
   . exact fold_filter p r a (fj b x.2.1) h0 (by omega) e1.2
theorem xo:∀(xs:List aO) (a:Int),0<=a->a<=4611686018427387904->0<=xs.foldl (fun a h=>fj a h.2.1) a/\xs.foldl (fun a h=>fj a h.2.1) a<=4611686018427387904
 | [],_,h0,h=>⟨h0,h⟩
 | x::r,a,h0,h=>xo r _ (yy a x.2.1).1 (yy a x.2.1).2
theorem NN{a x y:Int}(h0:0<=x)(h:x<=y)(hb:y<=4611686018427387904):fj a x<=fj a y:=by
 have:=iF a;have e1:ej x=x:=by unfold ej; rw[if_neg (by omega),if_neg (by omega)]
 have e2:ej y=y:=by unfold ej; rw[if_neg (by omega),if_neg (by omega)]
 unfold fj; rw[e1,e2]; split <;> split <;> omega
theorem Fx{a:ax}(now:Int)(h:bo a=true):bo (aC a now)=true:=by
 unfold aC;rw[h];cases bh now with
 | false=>exact h
 | true =>
   simp only[oT];unfold bo at h ⊢;revert h;cases fB a.1 <;> first | exact fun h=>h | skip
   cases da a.2.1 0 9007199254740992 <;> first | exact fun h=>h | skip
   cases da a.2.2.2.1 0 1000 <;> first | exact fun h=>h | skip
   cases da a.2.2.2.2.1 0 9007199254740992 <;> first | exact fun h=>h | skip
   cases bY a.2.2.1 <;> first | exact fun h=>h | skip
   simp only[oT];cases hh:dm a.2.2.2.2.2.1 with
   | false=>intro h; simp at h
   | true =>
     rw[B9 _ hh];simp only[oT];have hr:dw (a.1,a.2.1,a.2.2.1,a.2.2.2.1,a.2.2.2.2.1,a.2.2.2.2.2.1.filter (gG now),a.2.2.2.2.2.2.1,a.2.2.2.2.2.2.2.1,a.2.2.2.2.2.2.2.2.1,a.2.2.2.2.2.2.2.2.2.1,a.2.2.2.2.2.2.2.2.2.2.1,())=dw a:=rfl;rw[hr];cases gS (dw a) <;> first | exact fun h=>h | skip
     cases eG a.2.2.2.2.2.2.2.2.2.2.1 <;> first | exact fun h=>h | skip
     simp only[oT];intro h;have h1:fj a.2.2.1 (vg a.2.2.2.2.2.1)<=a.2.1:=ana h;have h2:=fold_filter (gG now) a.2.2.2.2.2.1 0 0 (Int.le_refl _) (Int.le_refl _) (by decide);have h3:=xo a.2.2.2.2.2.1 0 (Int.le_refl _) (by decide);have h4:=xo (a.2.2.2.2.2.1.filter (gG now)) 0 (Int.le_refl _) (by decide);exact amg (Int.le_trans (NN h4.1 h2 h3.2) h1)
theorem Iz{a:ax}(now:Int)(h:bo a=true):hO (aC a now) now=hO a now:=by
 have h2:=Fx now h;unfold hO;rw[h2,h];unfold aC;rw[h];cases bh now with
 | false=>rfl
 | true => simp only[oT];unfold vp;rw[List.filter_filter];simp only[Bool.and_self]
theorem Ei(a:ax)(now:Int):(aC a now).2.2.1=a.2.2.1:=by
 unfold aC; cases bo a <;> first | rfl | skip
 cases bh now <;> rfl
def xk(a:ax)(now:Int):S8×Int:=cond (bo a) (cond (bh now) ((et (hO a now) 16++[32])++et a.2.2.1 16,0) ([],1)) ([],1)
theorem ae0(a:ax)(now:Int)(hb:bK a):Wz a now=some ((),((xk a now).1,()),((xk a now).2,()),()):=by
 have bp:=bk;have w1:=jO (hO a now) 16;have w2:=jO a.2.2.1 16;unfold Wz xk;rw[mI a hb,iO,JI a now hb];dsimp only[oB];rw[IH,IH];cases bo a <;> first | rfl | skip
 cases bh now <;> first | rfl | skip
 dsimp only[oB,oN,oF,oT,uy];rw[ni (by simp only[ams,amZ]; omega),ni (by simp only[amf,ams,amZ]; omega)];try rfl
theorem SD(a:ax)(now:Int) : -9223372036854775808<=hO a now/\hO a now<=9223372036854775807:=by
 unfold hO;have z:(-9223372036854775808:Int)<=0/\(0:Int)<=9223372036854775807:=by decide
 cases bo a <;> first | exact z | skip
 cases bh now <;> first | exact z | skip
 have e:∀ x:Int,-9223372036854775808<=IntKind.i64.wrap x/\IntKind.i64.wrap x<=9223372036854775807:=fun x=>by rw[IntKind.wrap_i64]; omega
 exact e _
theorem Nt{a:ax}(ha:bo a=true) : -9223372036854775808<=a.2.2.1/\a.2.2.1<=9223372036854775807:=by
 unfold bo at ha;cases hm:bY a.2.2.1 with
 | true=>have:=bB.1 hm; omega
 | false => rw[hm]at ha;revert ha;cases fB a.1 <;> cases da a.2.1 0 9007199254740992 <;> cases da a.2.2.2.1 0 1000 <;> cases da a.2.2.2.2.1 0 9007199254740992 <;> simp
theorem L9(a:ax)(now:Int)(hb:bK a):vH a now=cond (bo a) (cond (bh now) (some ((),(aC a now,((0,()),())))) (some ((),(([],0,0,0,0,[],0,0,[],[],[],()),((1,()),()))))) (some ((),(([],0,0,0,0,[],0,0,[],[],[],()),((1,()),())))):=by
 unfold vH;rw[nC a hb,iP,nq a now hb];dsimp only[oB];cases bo a <;> first | rfl | skip
 cases bh now <;> rfl
theorem afu(a:ax)(now:Int)(hb:bK a):Q0 a now=some ((),((xk a now).1,()),((xk a now).2,()),()):=by
 have bp:=bk;have w1:=jO (hO a now) 16;have w2:=jO a.2.2.1 16;have OW:=L9 a now hb;unfold Q0 xk;cases ha:bo a with
 | false=>rw[ha]at OW; rw[OW];try rfl
 | true =>
 cases ht:bh now with
 | false=>rw[ha,ht]at OW; rw[OW];try rfl
 | true =>
 rw[ha,ht]at OW;rw[OW];have hr:=JE (aC a now) now (dS now hb);rw[Iz now ha]at hr;have h0:aj 0 0=true:=rfl;have hw:=IB _ 16 (SD a now);have hw2:=IB _ 16 (Nt ha);dsimp only[oT,oB];rw[h0,hr,Ei];dsimp only[oT,oF,oB,oN];rw[hw,hw2];dsimp only[oB,oN,oF,oT,uy];rw[ni (by simp only[ams,amZ]; omega),ni (by simp only[amf,ams,amZ]; omega)];try rfl
def Xt(h:Nat)(c:UInt8):Nat:=((h ^^^ c.toNat) * 16777619) % 4294967296
def ajw(s:S8):Nat:=s.foldl Xt 2166136261
def Vn(s:S8)(n:Int):Int:=cond (aE n 1) 0 (eH ((ajw s:Nat):Int) n)
def jf(xs:List ax)(i:Nat)(x:ax):Bool:=cond (bo x) (cond (decide (0<i)) (BR (gt ([],0,0,0,0,[],0,0,[],[],[],()) xs ((i:Int)-1)).1 x.1) true) false
def ji(b:List ax):Bool:=cond (allI (jf b) 0 b) (ck (ae b) 6) false
def dJ(b:List ax):Prop:=b.length<=1048576/\∀ a∈b,bK a
theorem Tj(b:List ax)(hb:dJ b):g44 (b,())=zR (ji b):=by
 have bp:=bk;have hl:=hb.1;unfold g44;have h:=aS (step:=eo BG) b (fun i (_:Unit)=>(b,ae b,((i:Nat):Int),(b,()),())) (fun i x _=>bif jf b i x then Sum.inl ()else .inr (.inr (false,()))) (fun _=> .inl (b,ae b,(b.length:Int),(b,()),())) (a0:=()) (fun i x a hx=>by
  have aV:=ah hx;show BG b (ae b) (i:Int) (b,())=_;unfold BG jf;rw[aL hx,aD hx,aM _ hx];dsimp only[oT];rw[mI x (hb.2 x (amk hx)),aU (by omega)];dsimp only[oB];cases bo x with
  | false=>rfl
  | true =>
    by_cases h0:0<i
    . rw[aR (show(0:Int)<i by omega),bI (by omega) (by omega),od hx h0];dsimp only[oT,oF,oN];have e:gt d94 b ((i:Int)-1)=gt ([],0,0,0,0,[],0,0,[],[],[],()) b ((i:Int)-1):=rfl;rw[e,amg h0];cases BR (gt ([],0,0,0,0,[],0,0,[],[],[],()) b ((i:Int)-1)).1 x.1 <;> rfl
    . rw[aF (show ¬ (0:Int)<i by omega),amB h0];try rfl) (fun a=>by
  show BG b (ae b) (b.length:Int) (b,())=_;unfold BG;rw[aA rfl];try rfl)
 rw[kg]at h;have h':Z8 b (ae b) 0 (b,())=_:=h;dsimp only;rw[h'];unfold ji;cases allI (jf b) 0 b <;> rfl
theorem Sa(b:List ax)(hb:dJ b):g56 (b,())=zR (ji b):=by
 have bp:=bk;have hl:=hb.1;unfold g56;have h:=aS (step:=eo zF) b (fun i (_:Unit)=>(b,ae b,((i:Nat):Int),(b,()),())) (fun i x _=>bif jf b i x then Sum.inl ()else .inr (.inr (false,()))) (fun _=> .inl (b,ae b,(b.length:Int),(b,()),())) (a0:=()) (fun i x a hx=>by
  have aV:=ah hx;show zF b (ae b) (i:Int) (b,())=_;unfold zF jf;rw[aL hx,aD hx,aM _ hx];dsimp only[oT];rw[nC x (hb.2 x (amk hx)),aU (by omega)];dsimp only[oB];cases bo x with
  | false=>rfl
  | true =>
    by_cases h0:0<i
    . rw[aR (show(0:Int)<i by omega),bI (by omega) (by omega),od hx h0];dsimp only[oT,oF,oN];rw[K5];have e:gt d94 b ((i:Int)-1)=gt ([],0,0,0,0,[],0,0,[],[],[],()) b ((i:Int)-1):=rfl;rw[e,amg h0];cases BR (gt ([],0,0,0,0,[],0,0,[],[],[],()) b ((i:Int)-1)).1 x.1 <;> rfl
    . rw[aF (show ¬ (0:Int)<i by omega),amB h0];try rfl) (fun a=>by
  show zF b (ae b) (b.length:Int) (b,())=_;unfold zF;rw[aA rfl];try rfl)
 rw[kg]at h;have h':Yu b (ae b) 0 (b,())=_:=h;dsimp only;rw[h'];unfold ji;cases allI (jf b) 0 b <;> rfl
abbrev Wu:=Int×List ax×Unit
def sp(n:Nat)(m:Int)(b:List ax):List Wu:=(List.range n).map fun(k:Nat)=>((-1:Int),b.filter (fun a=>aj (Vn a.1 m) (k:Int)),())
def ar(xs:List ax)(id:S8):Int:=dN (fun y=>bF y.1 id) 0 xs
theorem zD(xs:List ax)(id:S8)(hs:xs.length<=1048576):g51 (xs,()) id=zR (ar xs id):=by
 have bp:=bk;unfold g51 ar;have h:=aS (step:=eo A3) xs (fun i (_:Unit)=>(id,xs,ae xs,((i:Nat):Int),())) (fun i y _=>bif bF y.1 id then Sum.inr (.inr ((i:Int),()))else Sum.inl ()) (fun _=> .inl (id,xs,ae xs,(xs.length:Int),())) (a0:=()) (fun i y u hy=>by
  have aV:=ah hy;show A3 id xs (ae xs) (i:Int)=_;unfold A3;rw[aL hy,aD hy,aM _ hy,aU (by omega)];dsimp only[oT];cases bF y.1 id <;> rfl) (fun u=>by
  show A3 id xs (ae xs) (xs.length:Int)=_;unfold A3;rw[aA rfl];try rfl)
 have h':aaG id xs (ae xs) 0=_:=h;rw[h'];have hf:=ia (Y:=Sum (S8×(List ax)×Int×Int×Unit) (Int×Unit)) (fun(y:ax)=>bF y.1 id) (fun n=> .inr (n,())) (.inl (id,xs,ae xs,(xs.length:Int),())) (fun y=>match y with | .inl _ => -1 | .inr z=>z.1) (fun _=>rfl) rfl xs 0;rw[<- hf];dsimp only[oB];cases kR _ _ 0 xs () <;> rfl
theorem Aa(xs:List ax)(id:S8)(hs:xs.length<=1048576):g65 (xs,()) id=zR (ar xs id):=by
 have bp:=bk;unfold g65 abB ar;have h:=aS (step:=eo tY) xs (fun i (_:Unit)=>(xs,((id,()),()),ae xs,((i:Nat):Int),())) (fun i y _=>bif bF y.1 id then Sum.inr (.inr ((i:Int),()))else Sum.inl ()) (fun _=> .inl (xs,((id,()),()),ae xs,(xs.length:Int),())) (a0:=()) (fun i y u hy=>by
  have aV:=ah hy;show tY xs ((id,()),()) (ae xs) (i:Int)=_;unfold tY ado;rw[aL hy,aD hy,aM _ hy,aU (by omega)];dsimp only[oT,oB];cases bF y.1 id <;> rfl) (fun u=>by
  show tY xs ((id,()),()) (ae xs) (xs.length:Int)=_;unfold tY;rw[aA rfl];try rfl)
 have h':SJ xs ((id,()),()) (ae xs) 0=_:=h;rw[h'];have hf:=ia (Y:=Sum ((List ax)×(R9×Unit)×Int×Int×Unit) (Int×Unit)) (fun(y:ax)=>bF y.1 id) (fun n=> .inr (n,())) (.inl (xs,((id,()),()),ae xs,(xs.length:Int),())) (fun y=>match y with | .inl _ => -1 | .inr z=>z.1) (fun _=>rfl) rfl xs 0;rw[<- hf];dsimp only[oB];cases kR _ _ 0 xs () <;> rfl
theorem zq(xs:List ax)(hb:dJ xs):g41 (xs,())=zR xs:=by
 have bp:=bk;have hs:=hb.1;unfold g41;have h:=aP (step:=pZ zU) xs (fun i (a:List ax)=>(xs,ae xs,((i:Nat):Int),([],()),(a,()),())) (fun _ x a=>Sum.inl (a++[x])) (fun a=> .inl (xs,ae xs,(xs.length:Int),([],()),(a,()),())) (fun i a=>a.length=i) (a0:=[]) rfl (fun i x a hx ha=>by
  have aV:=ah hx;have hm:=hb.2 x (amk hx);show zU xs (ae xs) (i:Int) ([],()) (a,())=_;unfold zU;have e:∀ y:ax,bl 160 a [y]=true:=fun y=>amm (by simp; omega)
  have e0:gt d94 xs (i:Int)=x:=aM _ hx;rw[aL hx,aD hx,e0];dsimp only[oT];rw[oH x hm];dsimp only[oB];rw[e,aU (by omega)];try rfl) (fun i x a a' hx ha hf=>by
  simp only[amu]at hf;rw[<- hf,amf,ha];try rfl) (fun a ha=>by
  show zU xs (ae xs) (xs.length:Int) ([],()) (a,())=_;unfold zU;rw[aA rfl];try rfl)
 rw[mw]at h;have h':aaP xs (ae xs) 0 ([],()) ([],())=_:=h;rw[h'];try rfl
theorem yX(xs:List ax)(hb:dJ xs):Jh (xs,())=zR xs:=by
 have bp:=bk;have hs:=hb.1;unfold Jh ab0;have h:=aP (step:=Fk tw) xs (fun i (a:List ax)=>((),xs,ae xs,((i:Nat):Int),([],()),(a,()),())) (fun _ x a=>Sum.inl (a++[x])) (fun a=> .inl ((),xs,ae xs,(xs.length:Int),([],()),(a,()),())) (fun i a=>a.length=i) (a0:=[]) rfl (fun i x a hx ha=>by
  have aV:=ah hx;have hm:=hb.2 x (amk hx);show tw () xs (ae xs) (i:Int) ([],()) (a,())=_;unfold tw;have e:∀ y:ax,bl 160 a [y]=true:=fun y=>amm (by simp; omega)
  have e0:gt d94 xs (i:Int)=x:=aM _ hx;rw[aL hx,aD hx,e0];dsimp only[oT];rw[FQ x hm];dsimp only[oB];rw[e,aU (by omega)];try rfl) (fun i x a a' hx ha hf=>by
  simp only[amu]at hf;rw[<- hf,amf,ha];try rfl) (fun a ha=>by
  show tw () xs (ae xs) (xs.length:Int) ([],()) (a,())=_;unfold tw;rw[aA rfl];try rfl)
 rw[mw]at h;have h':QK () xs (ae xs) 0 ([],()) ([],())=_:=h;rw[h'];try rfl
abbrev fw:=Int×S8×S8×S8×S8×S8×Int×Int×Unit
theorem Iv(xs:List (Int×Unit))(v:Int)(hs:xs.length<=1048576):Xv xs v=zR (ck 0 (dN (fun y=>aj v y.1) 0 xs)):=by
 have bp:=bk;unfold Xv ab9;have h:=aS (step:=eo tB) xs (fun i (_:Unit)=>(xs,v,ae xs,((i:Nat):Int),())) (fun i y _=>bif aj v y.1 then Sum.inr (.inr ((i:Int),()))else Sum.inl ()) (fun _=> .inl (xs,v,ae xs,(xs.length:Int),())) (a0:=()) (fun i y u hy=>by
  have aV:=ah hy;show tB xs v (ae xs) (i:Int)=_;unfold tB;rw[aL hy,aD hy,aM _ hy,aU (by omega)];dsimp only[oT];cases aj v y.1 <;> rfl) (fun u=>by
  show tB xs v (ae xs) (xs.length:Int)=_;unfold tB;rw[aA rfl];try rfl)
 have h':TE xs v (ae xs) 0=_:=h;rw[h'];have hf:=ia (Y:=Sum ((List (Int×Unit))×Int×Int×Int×Unit) (Int×Unit)) (fun(y:Int×Unit)=>aj v y.1) (fun n=> .inr (n,())) (.inl (xs,v,ae xs,(xs.length:Int),())) (fun y=>match y with | .inl _ => -1 | .inr z=>z.1) (fun _=>rfl) rfl xs 0;rw[<- hf];dsimp only[oB];cases kR _ _ 0 xs () <;> rfl
def Q1(op:Int):S8:=gt ([],()) [([],()),([48,49,48,48],()),([48,49,48,48],()),([48,50,50,48],()),([48,50,50,48],()),([48,50,50,48],()),([48,50,48,48],()),([48,49,48,48],()),([48,50,48,48],())] op |>.1
def lg(q:fw):Bool:=da q.1 1 8&&bF q.2.2.2.2.2.1 (Q1 q.1)&&fB q.2.1&&aH q.2.2.2.2.1&&aj (ae q.2.2.2.2.1) 6&&(cond (aE q.1 7) (bm q.2.2.2.1) (bF q.2.2.2.1 []))&&(cond (aE q.1 5) (da q.2.2.2.2.2.2.1 0 999999999999) (aj q.2.2.2.2.2.2.1 0))&&(cond (aj q.1 1) (da q.2.2.2.2.2.2.2.1 0 9999) (aj q.2.2.2.2.2.2.2.1 0))&&(cond (aj q.1 6) (fB q.2.2.1) (bF q.2.2.1 []))
def DR(q:fw):Prop:=q.2.1.length<=1048576/\q.2.2.1.length<=1048576/\q.2.2.2.1.length<=1048576/\q.2.2.2.2.1.length<=1048576/\q.2.2.2.2.2.1.length<=1048576
theorem qw{op:Int}(h:da op 1 8=true):op=1∨op=2∨op=3∨op=4∨op=5∨op=6∨op=7∨op=8:=by have:=bB.1 h;omega
theorem YD(q:fw)(hb:DR q):BY q=zR (lg q):=by
 obtain⟨op,acct,other,hold,trace,ed,bJ,ny,_⟩:=q;obtain⟨b1,b2,b3,b4,b5⟩:=hb;cases fD:da op 1 8 with
 | false => unfold BY Hz lg;rw[oI,fD];try rfl
 | true =>
   have k1:=yW acct (cg b1);have k2:=yW other (cg b2);have k3:=l7 hold (cg b3);have k4:=gi trace (cg b4);have k5:Hz op=zR true:=by unfold Hz; rw[oI,fD];try rfl
   have k6:Of op=zR (Q1 op):=by unfold Of;rw[k5];rcases qw fD with h | h | h | h | h | h | h | h <;> subst h <;> rfl
   have k7:g91 op=zR (aE op 7):=by unfold g91; rw[k5];try rfl
   have k8:g93 op=zR (aE op 5):=by unfold g93;rw[oI];rcases qw fD with h | h | h | h | h | h | h | h <;> subst h <;> rfl
   have k9:=oI bJ 0 999999999999;have k10:=oI ny 0 9999;unfold BY lg;dsimp only;rw[k5,k6,k1,k4,k7,k8,k3,k9,k10,k2];dsimp only[oB];rw[fD];cases bF ed (Q1 op) <;> first | rfl | skip
   cases fB acct <;> first | rfl | skip
   cases aH trace <;> first | rfl | skip
   cases aj (ae trace) 6 <;> first | rfl | skip
   cases aE op 7 <;> cases bm hold <;> cases bF hold [] <;> first | rfl | skip
   all_goals (cases aE op 5 <;> cases da bJ 0 999999999999 <;> cases aj bJ 0 <;> first | rfl | skip)
   all_goals (cases aj op 1 <;> cases da ny 0 9999 <;> cases aj ny 0 <;> first | rfl | skip)
   all_goals (cases aj op 6 <;> cases fB other <;> rfl)
theorem abr{op:Int}(fD:da op 1 8=true):nG op 38=zR (aE op 7)/\nG op 4=zR (aE op 5)/\nG op 14=zR (aj op 1)/\nG op 103=zR (aj op 6):=by unfold nG Ec;rw[lC,fD];rcases qw fD with h | h | h | h | h | h | h | h <;> subst h <;> refine⟨?_,?_,?_,?_⟩ <;> (refine(amL (fun z=>Option.bind z fun y2=>some ((),(y2.2.1,()))) (Iv _ _ ?_)).trans ?_) <;> first | rfl | decide
theorem abl{op:Int}(fD:da op 1 8=true):∃(nm:S8×S8) (fs:List (Int×Unit)),Ec op=some ((),((Q1 op,nm.1,nm.2,fs,()),()))/\bF nm.2 []=false:=by unfold Ec;rw[lC,fD];rcases qw fD with h | h | h | h | h | h | h | h <;> subst h <;> exact⟨(_,_),_,rfl,rfl⟩
theorem aaL(q:fw)(hb:DR q):NK q=zR (lg q):=by
 obtain⟨op,acct,other,hold,trace,ed,bJ,ny,_⟩:=q;obtain⟨b1,b2,b3,b4,b5⟩:=hb;cases fD:da op 1 8 with
 | false => unfold NK Ec lg;rw[lC,fD];try rfl
 | true =>
   have k1:=zX acct (cg b1);have k2:=zX other (cg b2);have k3:=l8 hold (cg b3);have k4:yf trace 6=zR (cond (aH trace) (aj (ae trace) 6) false):=by unfold yf; rw[iZ trace (cg b4)];try rfl
   obtain⟨nm,fs,k5,k6⟩:=abl fD;obtain⟨u1,u2,u3,u4⟩:=abr fD;have k9:=lC bJ 0 999999999999;have k10:=lC ny 0 9999;unfold NK lg;dsimp only;rw[k5,k1,k4,u1,u2,u3,u4,k3,k9,k10,k2];dsimp only[oB];rw[fD,k6];cases bF ed (Q1 op) <;> first | rfl | skip
   cases fB acct <;> first | rfl | skip
   cases aH trace <;> first | rfl | skip
   cases aj (ae trace) 6 <;> first | rfl | skip
   cases aE op 7 <;> cases bm hold <;> cases bF hold [] <;> cases aE op 5 <;> cases da bJ 0 999999999999 <;> cases aj bJ 0 <;> cases aj op 1 <;> cases da ny 0 9999 <;> cases aj ny 0 <;> cases aj op 6 <;> cases fB other <;> cases bF other [] <;> rfl
def K6(a:ax)(p:Int)(l:List aO):ax:=(a.1,a.2.1,p,a.2.2.2.1,a.2.2.2.2.1,l,a.2.2.2.2.2.2.1,a.2.2.2.2.2.2.2.1,a.2.2.2.2.2.2.2.2.1,a.2.2.2.2.2.2.2.2.2.1,a.2.2.2.2.2.2.2.2.2.2.1,())
def pq(a:ax)(id:S8)(bJ:Int)(last:Bool)(now:Int):ax×Int :=
 cond (cond (bo a) (cond (bh now) (bm id) false) false)
  (cond (da bJ 1 9007199254740992)
    (cond (aE (az (aC a now).2.2.2.2.2.1 id) 0) (aK,5)
      (cond (aE (gt pY (aC a now).2.2.2.2.2.1 (az (aC a now).2.2.2.2.2.1 id)).2.1 bJ) (aK,7)
        (cond (cond last true (aj bJ (gt pY (aC a now).2.2.2.2.2.1 (az (aC a now).2.2.2.2.2.1 id)).2.1))
          (K6 (aC a now) (ak .i64 (aC a now).2.2.1 bJ) ((aC a now).2.2.2.2.2.1.filter (cj id)),0)
          (K6 (aC a now) (ak .i64 (aC a now).2.2.1 bJ) (cZ (aC a now).2.2.2.2.2.1 (az (aC a now).2.2.2.2.2.1 id) ((gt pY (aC a now).2.2.2.2.2.1 (az (aC a now).2.2.2.2.2.1 id)).1,bf .i64 (gt pY (aC a now).2.2.2.2.2.1 (az (aC a now).2.2.2.2.2.1 id)).2.1 bJ,(gt pY (aC a now).2.2.2.2.2.1 (az (aC a now).2.2.2.2.2.1 id)).2.2.1,())),0))))
    (aK,4))
  (aK,1)
theorem agU(a:ax)(id:S8)(bJ:Int)(last:Bool)(now:Int)(hb:bK a)(hi:id.length<=1048576):QR a id bJ last now=some ((),((pq a id bJ last now).1,((pq a id bJ last now).2,()),())):=by
 have eD:=dS now hb;unfold QR z7 pq;rw[mI a hb,iO,l7 id (cg hi),oI,pK a now hb];dsimp only[oB];generalize aC a now=s at eD ⊢;rw[nT _ id eD.2.1.1,JY _ id eD.2.1.1];dsimp only[oB];cases bo a <;> first | rfl | skip
 cases bh now <;> first | rfl | skip
 cases bm id <;> first | rfl | skip
 cases da bJ 1 9007199254740992 <;> first | rfl | skip
 dsimp only[oT,oF,oN,oB];by_cases ll:az s.2.2.2.2.2.1 id<0
 . rw[aR ll];try rfl
 . rw[aF ll,jQ ll];dsimp only[oT,oF];have eh:gt d192 s.2.2.2.2.2.1 (az s.2.2.2.2.2.1 id)=gt pY s.2.2.2.2.2.1 (az s.2.2.2.2.2.1 id):=rfl;rw[eh];cases aE (gt pY s.2.2.2.2.2.1 (az s.2.2.2.2.2.1 id)).2.1 bJ <;> first | rfl | skip
   cases last <;> first | rfl | skip
   cases aj bJ (gt pY s.2.2.2.2.2.1 (az s.2.2.2.2.2.1 id)).2.1 <;> rfl
theorem I2{xs:List aO}{id:S8}(h:¬ az xs id<0):∃(i:Nat) (y:aO),az xs id=(i:Int)/\xs[i]? = some y/\y.1=id:=by
 have cY:dN (fun(y:aO)=>bF y.1 id) 0 xs ≠ -1:=fun e=>by unfold az at h; rw[e]at h; omega
 obtain⟨i,y,h1,h2,h3,_⟩:=mJ _ _ _ cY;refine⟨i,y,by unfold az; rw[h1,amp],h2,by simpa[bF]using h3⟩
theorem zl{id:S8}:∀(xs:List aO) (i:Nat) (y z:aO),xs[i]? = some y->y.1=id->z.1=id->(xs.set i z).filter (cj id)=xs.filter (cj id)
 | [],i,y,z,h,_,_=>by simp at h
 | x::r,0,y,z,h,h1,h2=>by
   simp only[amj,amd]at h;subst h;have e1:cj id x=false:=by unfold cj bF; rw[h1]; simp
   have e2:cj id z=false:=by unfold cj bF; rw[h2]; simp
   rw[List.set_cons_zero,am6,am6,e1,e2];try rfl
 | x::r,i+1,y,z,h,h1,h2=>by rw[ao7,am6,am6,zl r i y z (by simpa using h) h1 h2]
theorem af9(a:ax)(id:S8)(bJ:Int)(last:Bool)(now:Int)(hb:bK a)(hi:id.length<=1048576):JK a id bJ last now=some ((),((pq a id bJ last now).1,((pq a id bJ last now).2,()),())):=by
 have eD:=dS now hb;have Fg:=fun h=>Fx (a:=a) now h
 unfold JK JF vH pq;rw[nC a hb,iP,l8 id (cg hi),lC,nq a now hb];dsimp only[oB];generalize aC a now=s at eD Fg ⊢;have h2:=jd s.2.2.2.2.2.1 id eD.2.1.1;have h0:=jd [] id (by decide);cases hac:bo a with
 | false => simp only[oT,oF,oN,oM,oB];rw[h0];try rfl
 | true =>
 cases bh now with
 | false => simp only[oT,oF,oN,oM,oB];rw[h0];try rfl
 | true =>
 simp only[oT,oF,oN,oM,oB];rw[h2];dsimp only[oB];cases bm id with
 | false=>rfl
 | true =>
 cases ham:da bJ 1 9007199254740992 with
 | false=>rfl
 | true =>
 by_cases ll:az s.2.2.2.2.2.1 id<0
 . rw[aR ll];try rfl
 . have Mr:aj 0 0=true:=rfl;rw[aF ll,Mr];simp only[oT,oF,oN,oM,oB];have kL:=jQ ll;obtain⟨i,y,q1,q2,q3⟩:=I2 ll;have eh:gt d192 s.2.2.2.2.2.1 (az s.2.2.2.2.2.1 id)=y:=by rw[q1]; exact aM _ q2
   have eh2:gt pY s.2.2.2.2.2.1 (az s.2.2.2.2.2.1 id)=y:=by rw[q1]; exact aM _ q2
   have hyb:1<=y.2.1/\y.2.1<=9007199254740992:=by
    have hs:=Fg hac;have hh:dm s.2.2.2.2.2.1=true:=by
     unfold bo at hs;cases hm:dm s.2.2.2.2.2.1 with
     | true=>rfl
     | false => rw[hm]at hs;revert hs;cases fB s.1 <;> cases da s.2.1 0 9007199254740992 <;> cases da s.2.2.2.1 0 1000 <;> cases da s.2.2.2.2.1 0 9007199254740992 <;> cases bY s.2.2.1 <;> simp
    have hm:=s9 hh y (amk q2);unfold mH at hm;cases T9:da y.2.1 1 9007199254740992 with
    | true=>exact bB.1 T9
    | false=>rw[T9]at hm; revert hm; cases bm y.1 <;> simp
   have amb:=bB.1 ham;rw[eh,eh2,kL];simp only[oT,oF];by_cases aV:y.2.1<bJ
   . rw[aR aV];try rfl
   . rw[aF aV];simp only[oT,oF];have Un:bf .i64 y.2.1 bJ=y.2.1-bJ:=bI (by omega) (by omega);have mR:cZ s.2.2.2.2.2.1 (az s.2.2.2.2.2.1 id) (y.1,bf .i64 y.2.1 bJ,y.2.2.1,())=s.2.2.2.2.2.1.set i (y.1,bf .i64 y.2.1 bJ,y.2.2.1,()):=by
      rw[q1];try rfl
     have Dm:=ah q2;have lE:(s.2.2.2.2.2.1.set i (y.1,bf .i64 y.2.1 bJ,y.2.2.1,()))[i]? = some (y.1,bf .i64 y.2.1 bJ,y.2.2.1,()):=by rw[aoT Dm]
     have al0:aX (az s.2.2.2.2.2.1 id) (cZ s.2.2.2.2.2.1 (az s.2.2.2.2.2.1 id) (y.1,bf .i64 y.2.1 bJ,y.2.2.1,()))=true:=by rw[mR,q1]; exact aD lE
     have O6:gt d192 (cZ s.2.2.2.2.2.1 (az s.2.2.2.2.2.1 id) (y.1,bf .i64 y.2.1 bJ,y.2.2.1,())) (az s.2.2.2.2.2.1 id)=(y.1,bf .i64 y.2.1 bJ,y.2.2.1,()):=by rw[mR,q1]; exact aM _ lE
     have HY:DY (cZ s.2.2.2.2.2.1 (az s.2.2.2.2.2.1 id) (y.1,bf .i64 y.2.1 bJ,y.2.2.1,())) id=zR (s.2.2.2.2.2.1.filter (cj id)):=by rw[mR,El _ id (by rw[ano]; exact eD.2.1.1),zl _ i y (y.1,bf .i64 y.2.1 bJ,y.2.2.1,()) q2 q3 q3]
     have hz:aj (bf .i64 y.2.1 bJ) 0=aj bJ y.2.1:=by
      rw[Un];by_cases e:bJ=y.2.1
      . rw[bt.2 e,bt.2 (by omega)]
      . rw[w9 e,w9 (by omega)]
     rw[Mr,al0,O6];simp only[oT,oF,oN];rw[HY,hz];cases aj bJ y.2.1 <;> cases last <;> rfl
def lK(a:ax)(id:S8)(now:Int):ax×Int :=
 cond (cond (bo a) (cond (bh now) (bm id) false) false)
  (cond (aE (az (aC a now).2.2.2.2.2.1 id) 0) (aK,5)
    (K6 (aC a now) (aC a now).2.2.1 ((aC a now).2.2.2.2.2.1.filter (cj id)),0))
  (aK,1)
theorem acL(a:ax)(id:S8)(now:Int)(hb:bK a)(hi:id.length<=1048576):VU a id now=some ((),((lK a id now).1,((lK a id now).2,()),())):=by
 have eD:=dS now hb;unfold VU z7 lK;rw[mI a hb,iO,l7 id (cg hi),pK a now hb];dsimp only[oB];generalize aC a now=s at eD ⊢;rw[nT _ id eD.2.1.1,JY _ id eD.2.1.1];dsimp only[oB];cases bo a <;> first | rfl | skip
 cases bh now <;> first | rfl | skip
 cases bm id <;> first | rfl | skip
 dsimp only[oT,oF,oN,oB];cases aE (az s.2.2.2.2.2.1 id) 0 <;> rfl
theorem ac4(a:ax)(id:S8)(now:Int)(hb:bK a)(hi:id.length<=1048576):S2 a id now=some ((),((lK a id now).1,((lK a id now).2,()),())):=by
 have eD:=dS now hb;unfold S2 JF vH lK;rw[nC a hb,iP,l8 id (cg hi),lC,nq a now hb];dsimp only[oB];generalize aC a now=s at eD ⊢;have h2:=jd s.2.2.2.2.2.1 id eD.2.1.1;have h3:=El s.2.2.2.2.2.1 id eD.2.1.1;have h0:=jd [] id (by decide);have e1:da 1 1 9007199254740992=true:=rfl;cases bo a with
 | false => simp only[oT,oF,oN,oM,oB];rw[h0];try rfl
 | true =>
 cases bh now with
 | false => simp only[oT,oF,oN,oM,oB];rw[h0];try rfl
 | true =>
 simp only[oT,oF,oN,oM,oB];rw[h2];dsimp only[oB];cases bm id with
 | false=>rfl
 | true =>
 have Mr:aj 0 0=true:=rfl;rw[Mr,e1];simp only[oT,oF,oN,oM,oB];cases aE (az s.2.2.2.2.2.1 id) 0 with
 | true=>rfl
 | false => simp only[oT,oF,oN,oM,oB];rw[Mr];simp only[oT,oF,oN,oM,oB];rw[h3];try rfl
def iM(a:ax)(now:Int):ax×Int:=cond (bo a) (cond (bh now) (aC a now,0) (aK,1)) (aK,1)
theorem VI(a:ax)(now:Int)(hb:bK a):XQ a now=some ((),((iM a now).1,((iM a now).2,()),())):=by
 unfold XQ iM;rw[mI a hb,iO,pK a now hb];dsimp only[oB];cases bo a <;> first | rfl | skip
 cases bh now <;> rfl
theorem V5(a:ax)(now:Int)(hb:bK a):QF a now=some ((),((iM a now).1,((iM a now).2,()),())):=by
 unfold QF iM;rw[L9 a now hb];cases bo a <;> first | rfl | skip
 cases bh now <;> rfl
theorem eO{b:List ax}{id:S8}(h:¬ ar b id<0):∃(i:Nat) (y:ax),ar b id=(i:Int)/\b[i]? = some y:=by
 have cY:dN (fun(y:ax)=>bF y.1 id) 0 b ≠ -1:=fun e=>by unfold ar at h; rw[e]at h; omega
 obtain⟨i,y,h1,h2,h3,_⟩:=mJ _ _ _ cY;exact⟨i,y,by unfold ar; rw[h1,amp],h2⟩
theorem MX{y:aO}(h:mH y=true):y.1.length<=1048576:=by
 unfold mH at h;cases hi:bm y.1 with
 | false=>rw[hi]at h; simp at h
 | true =>
   unfold bm at hi;cases ha:y.1.all kQ with
   | false=>rw[ha]at hi; simp at hi
   | true => rw[ha]at hi;have:=bB.1 (show da (ae y.1) 1 6=true from hi);unfold ae at this; omega
theorem PE(xs:List aO)(h:aO):(eS xs h).1.length<=1048576/\∀ y∈(eS xs h).1,y.1.length<=1048576:=by
 unfold eS;cases dm xs with
 | false=>exact⟨amr _,fun y hy=>by simp at hy⟩
 | true =>
   cases hp:dm (jX xs h)with
   | false=>exact⟨amr _,fun y hy=>by simp at hy⟩
   | true => have:=pC hp;exact⟨by show(jX xs h).length<=_; omega,fun y hy=>MX (s9 hp y hy)⟩
theorem Dh{r:gu}(now bJ:Int)(h:j8 r):j8 (du r now bJ):=by have:=qo r now bJ;unfold j8 at h ⊢;rw[this.1,this.2]; exact h
theorem fg:bK aK:=⟨by decide,⟨by decide,fun y hy=>by simp[aK]at hy⟩,⟨by decide,by decide⟩,by decide,fun y hy=>by simp[aK]at hy⟩
theorem acA{a:ax}(id:S8)(bJ ny now:Int)(hb:bK a):bK (lP a id bJ ny now).1:=by
 have eD:=dS now hb;unfold lP;generalize aC a now=s at eD ⊢;have hp:=PE s.2.2.2.2.2.1 (id,bJ,ak .i64 now ny,());have hr:=Dh now bJ eD.2.2.1;cases cond (bo a) (cond (bh now) (bm id) false) false <;> first | exact fg | skip
 cases da bJ 1 9007199254740992 <;> first | exact fg | skip
 dsimp only[oT];cases(cond (!da ny 1 9999) true (aE 1000000000 (ak .i64 now ny))) <;> first | exact fg | skip
 cases ck 0 (az s.2.2.2.2.2.1 id) <;> first | exact fg | skip
 cases aj (ae s.2.2.2.2.2.1) 4 <;> first | exact fg | skip
 cases aj (hE s bJ now) 0 <;> first | exact fg | skip
 exact⟨eD.1,hp,hr,eD.2.2.2.1,eD.2.2.2.2⟩
theorem ZP{xs:List aO}{k:Int}{z:aO}(h:xs.length<=1048576/\∀ y∈xs,y.1.length<=1048576)(hz:z.1.length<=1048576):(cZ xs k z).length<=1048576/\∀ y∈cZ xs k z,y.1.length<=1048576:=by
 unfold cZ;refine⟨by rw[ano]; exact h.1,fun y hy => ?_⟩;rcases aoH hy with hy | hy
 . exact h.2 y hy
 . rw[hy]; exact hz
theorem By{xs:List aO}(p:aO->Bool)(h:xs.length<=1048576/\∀ y∈xs,y.1.length<=1048576):(xs.filter p).length<=1048576/\∀ y∈xs.filter p,y.1.length<=1048576 :=
 ⟨aml (am4 _ _) h.1,fun y hy=>h.2 y (ans.1 hy).1⟩
theorem adF{a:ax}(id:S8)(bJ now:Int)(hb:bK a):bK (lN a id bJ now).1:=by
 have eD:=dS now hb;unfold lN;generalize aC a now=s at eD ⊢;have hg:=Gu (k:=az s.2.2.2.2.2.1 id) eD.2.1.2;have hp:=fun v=>ZP (k:=az s.2.2.2.2.2.1 id) (z:=((gt pY s.2.2.2.2.2.1 (az s.2.2.2.2.2.1 id)).1,v,(gt pY s.2.2.2.2.2.1 (az s.2.2.2.2.2.1 id)).2.2.1,())) eD.2.1 hg
 have hr:=Dh now bJ eD.2.2.1;cases cond (bo a) (cond (bh now) (bm id) false) false <;> first | exact fg | skip
 cases da bJ 1 9007199254740992 <;> first | exact fg | skip
 cases aE (az s.2.2.2.2.2.1 id) 0 <;> first | exact fg | skip
 cases aj (hE s bJ now) 0 <;> first | exact fg | skip
 exact⟨eD.1,hp _,hr,eD.2.2.2.1,eD.2.2.2.2⟩
theorem aag{a:ax}(id:S8)(bJ:Int)(last:Bool)(now:Int)(hb:bK a):bK (pq a id bJ last now).1:=by
 have eD:=dS now hb;unfold pq;generalize aC a now=s at eD ⊢;have hg:=Gu (k:=az s.2.2.2.2.2.1 id) eD.2.1.2;have hp:=fun v=>ZP (k:=az s.2.2.2.2.2.1 id) (z:=((gt pY s.2.2.2.2.2.1 (az s.2.2.2.2.2.1 id)).1,v,(gt pY s.2.2.2.2.2.1 (az s.2.2.2.2.2.1 id)).2.2.1,())) eD.2.1 hg
 have hf:=By (cj id) eD.2.1;cases cond (bo a) (cond (bh now) (bm id) false) false <;> first | exact fg | skip
 cases da bJ 1 9007199254740992 <;> first | exact fg | skip
 cases aE (az s.2.2.2.2.2.1 id) 0 <;> first | exact fg | skip
 cases aE (gt pY s.2.2.2.2.2.1 (az s.2.2.2.2.2.1 id)).2.1 bJ <;> first | exact fg | skip
 dsimp only[oT,oF];cases(cond last true (aj bJ (gt pY s.2.2.2.2.2.1 (az s.2.2.2.2.2.1 id)).2.1))
 . exact⟨eD.1,hp _,eD.2.2.1,eD.2.2.2.1,eD.2.2.2.2⟩
 . exact⟨eD.1,hf,eD.2.2.1,eD.2.2.2.1,eD.2.2.2.2⟩
theorem ady{a:ax}(id:S8)(now:Int)(hb:bK a):bK (lK a id now).1:=by
 have eD:=dS now hb;unfold lK;generalize aC a now=s at eD ⊢;have hf:=By (cj id) eD.2.1;cases cond (bo a) (cond (bh now) (bm id) false) false <;> first | exact fg | skip
 cases aE (az s.2.2.2.2.2.1 id) 0 <;> first | exact fg | skip
 exact⟨eD.1,hf,eD.2.2.1,eD.2.2.2.1,eD.2.2.2.2⟩
theorem adO{a b:ax}(id:S8)(now:Int)(hb:bK a)(hc:bK b):bK (gr a b id now).1/\bK (gr a b id now).2.1:=by
 have eD:=dS now hb;have Ic:=dS now hc;have h00:bK aK/\bK aK:=⟨fg,fg⟩;unfold gr;generalize aC a now=s at eD ⊢;generalize aC b now=t at Ic ⊢;have hf:=By (cj id) eD.2.1;have hp:=PE t.2.2.2.2.2.1 (gt pY s.2.2.2.2.2.1 (az s.2.2.2.2.2.1 id));cases cond (bo a) (cond (bh now) (bm id) false) false <;> first | exact h00 | skip
 cases bo b <;> first | exact h00 | skip
 cases bF a.1 b.1 <;> first | exact h00 | skip
 cases aE (az s.2.2.2.2.2.1 id) 0 <;> first | exact h00 | skip
 cases ck 0 (az t.2.2.2.2.2.1 id) <;> first | exact h00 | skip
 cases aj (ae t.2.2.2.2.2.1) 4 <;> first | exact h00 | skip
 cases aE (hO t now) (gt pY s.2.2.2.2.2.1 (az s.2.2.2.2.2.1 id)).2.1 <;> first | exact h00 | skip
 exact⟨⟨eD.1,hf,eD.2.2.1,eD.2.2.2.1,eD.2.2.2.2⟩,⟨Ic.1,hp,Ic.2.2.1,Ic.2.2.2.1,Ic.2.2.2.2⟩⟩
theorem V3{a:ax}(now:Int)(hb:bK a):bK (iM a now).1:=by
 have eD:=dS now hb;unfold iM;cases bo a <;> first | exact fg | skip
 cases bh now <;> first | exact fg | exact eD
def mP(a b:ax)(q:fw)(now:Int):ax×ax×Int×S8 :=
 cond (aj q.1 1) ((lP a q.2.2.2.1 q.2.2.2.2.2.2.1 q.2.2.2.2.2.2.2.1 now).1,b,(lP a q.2.2.2.1 q.2.2.2.2.2.2.1 q.2.2.2.2.2.2.2.1 now).2,[])
  (cond (aj q.1 2) ((lN a q.2.2.2.1 q.2.2.2.2.2.2.1 now).1,b,(lN a q.2.2.2.1 q.2.2.2.2.2.2.1 now).2,[])
    (cond (aj q.1 3) ((pq a q.2.2.2.1 q.2.2.2.2.2.2.1 (aj q.1 4) now).1,b,(pq a q.2.2.2.1 q.2.2.2.2.2.2.1 (aj q.1 4) now).2,[])
      (cond (aj q.1 4) ((pq a q.2.2.2.1 q.2.2.2.2.2.2.1 (aj q.1 4) now).1,b,(pq a q.2.2.2.1 q.2.2.2.2.2.2.1 (aj q.1 4) now).2,[])
        (cond (aj q.1 5) ((lK a q.2.2.2.1 now).1,b,(lK a q.2.2.2.1 now).2,[])
          (cond (aj q.1 6) ((gr a b q.2.2.2.1 now).1,(gr a b q.2.2.2.1 now).2.1,(gr a b q.2.2.2.1 now).2.2,[])
            (cond (aj q.1 7) (a,b,(xk a now).2,(xk a now).1)
              ((iM a now).1,b,(iM a now).2,[])))))))
theorem agu(a b:ax)(q:fw)(now:Int)(hb:bK a)(hc:bK b)(hi:q.2.2.2.1.length<=1048576):g97 a b q now=some ((),((mP a b q now).1,(mP a b q now).2.1,((mP a b q now).2.2.1,()),((mP a b q now).2.2.2,()),())):=by
 unfold g97 mP;rw[acz a _ _ _ now hb hi,abA a _ _ now hb hi,agU a _ _ _ now hb hi,acL a _ now hb hi,acs a b _ now hb hc hi,ae0 a now hb,VI a now hb];cases aj q.1 1 <;> first | rfl | skip
 cases aj q.1 2 <;> first | rfl | skip
 cases aj q.1 3 <;> first | rfl | skip
 cases aj q.1 4 <;> first | rfl | skip
 cases aj q.1 5 <;> first | rfl | skip
 cases aj q.1 6 <;> first | rfl | skip
 cases aj q.1 7 <;> rfl
theorem Xj{a b:ax}(q:fw)(now:Int)(hb:bK a)(hc:bK b):bK (mP a b q now).1/\bK (mP a b q now).2.1:=by
 unfold mP;cases aj q.1 1 <;> first | exact⟨acA _ _ _ now hb,hc⟩ | skip
 cases aj q.1 2 <;> first | exact⟨adF _ _ now hb,hc⟩ | skip
 cases aj q.1 3 <;> first | exact⟨aag _ _ _ now hb,hc⟩ | skip
 cases aj q.1 4 <;> first | exact⟨aag _ _ _ now hb,hc⟩ | skip
 cases aj q.1 5 <;> first | exact⟨ady _ now hb,hc⟩ | skip
 cases aj q.1 6 <;> first | exact adO _ now hb hc | skip
 cases aj q.1 7 <;> first | exact⟨hb,hc⟩ | exact⟨V3 now hb,hc⟩
def dk(b:List ax)(q:fw)(now:Int):(List ax)×Int×S8 :=
 cond (ji b) (cond (lg q) (cond (bh now)
  (cond (aj q.1 6)
    (cond (cond (aE (ar b q.2.1) 0) true (aE (ar b q.2.2.1) 0)) ([],3,[])
      (cond (aj (mP (gt aK b (ar b q.2.1)) (gt aK b (ar b q.2.2.1)) q now).2.2.1 0)
        (cZ (cZ b (ar b q.2.2.1) (mP (gt aK b (ar b q.2.1)) (gt aK b (ar b q.2.2.1)) q now).2.1) (ar b q.2.1) (mP (gt aK b (ar b q.2.1)) (gt aK b (ar b q.2.2.1)) q now).1,0,(mP (gt aK b (ar b q.2.1)) (gt aK b (ar b q.2.2.1)) q now).2.2.2)
        ([],(mP (gt aK b (ar b q.2.1)) (gt aK b (ar b q.2.2.1)) q now).2.2.1,[])))
    (cond (aE (ar b q.2.1) 0) ([],3,[])
      (cond (aj (mP (gt aK b (ar b q.2.1)) (gt aK b (ar b q.2.1)) q now).2.2.1 0)
        (cZ b (ar b q.2.1) (mP (gt aK b (ar b q.2.1)) (gt aK b (ar b q.2.1)) q now).1,0,(mP (gt aK b (ar b q.2.1)) (gt aK b (ar b q.2.1)) q now).2.2.2)
        ([],(mP (gt aK b (ar b q.2.1)) (gt aK b (ar b q.2.1)) q now).2.2.1,[]))))
  ([],1,[])) ([],1,[])) ([],1,[])
theorem ac7(b:List ax)(q:fw)(now:Int)(hb:dJ b)(hq:DR q):g53 (b,()) q now=some ((),(((dk b q now).1,()),((dk b q now).2.1,()),((dk b q now).2.2,()),())):=by
 have hi:=hq.2.2.1;have a1:=zD b q.2.1 hb.1;have a2:=zD b q.2.2.1 hb.1;have a3:=zq b hb;unfold g53 dk;rw[Tj b hb,YD q hq,iO,a1,a2];dsimp only[oB];cases ji b <;> first | rfl | skip
 cases lg q <;> first | rfl | skip
 cases bh now <;> first | rfl | skip
 dsimp only[oT,oF,oN];cases h6:aj q.1 6 with
 | true =>
   dsimp only[oT];by_cases n1:ar b q.2.1<0
   . rw[aR n1];try rfl
   by_cases n2:ar b q.2.2.1<0
   . rw[aF n1,aR n2];try rfl
   obtain⟨i,y,i1,i2⟩:=eO n1;obtain⟨k,z,j1,j2⟩:=eO n2;have hy:=hb.2 y (amk i2);have hz:=hb.2 z (amk j2);have e1:gt d94 b (i:Int)=y:=aM _ i2;have e2:gt d94 b (k:Int)=z:=aM _ j2;have e3:gt aK b (i:Int)=y:=aM _ i2;have e4:gt aK b (k:Int)=z:=aM _ j2;have ho:=agu y z q now hy hz hi;obtain⟨ob1,ob2⟩:=Xj (a:=y) (b:=z) q now hy hz;rw[aF n1,aF n2,i1,j1,aD i2,aD j2,e1,e2,e3,e4];generalize mP y z q now=r at ho ob1 ob2 ⊢;dsimp only[oT,oF];rw[ho];dsimp only[oB];cases aj r.2.2.1 0 with
   | false=>rfl
   | true =>
     dsimp only[oT,oF,oN];rw[a3,oH r.1 ob1,oH r.2.1 ob2];dsimp only[oB];have hlen:(cZ b (k:Int) r.2.1).length=b.length:=by unfold cZ; rw[ano]
     have kL:aX (i:Int) (cZ b (k:Int) r.2.1)=true:=im (by rw[hlen]; exact ah i2);by_cases hk:(k:Int)=(i:Int)
     . rw[bt.2 hk,aD i2];have:cZ (cZ b (k:Int) r.2.1) (i:Int) r.1=cZ b (i:Int) r.1:=by rw[hk]; unfold cZ; exact List.set_set ..
       rw[this];try rfl
     . rw[w9 hk,aD j2,kL];try rfl
 | false =>
   dsimp only[oF];by_cases n1:ar b q.2.1<0
   . rw[aR n1];try rfl
   obtain⟨i,y,i1,i2⟩:=eO n1;have hy:=hb.2 y (amk i2);have e1:gt d94 b (i:Int)=y:=aM _ i2;have e3:gt aK b (i:Int)=y:=aM _ i2;have ho:=agu y y q now hy hy hi;obtain⟨ob1,ob2⟩:=Xj (a:=y) (b:=y) q now hy hy;rw[aF n1,i1,aD i2,e1,e3];generalize mP y y q now=r at ho ob1 ob2 ⊢;dsimp only[oT,oF];rw[ho];dsimp only[oB];cases aj r.2.2.1 0 with
   | false=>rfl
   | true => dsimp only[oT,oF,oN];rw[a3,oH r.1 ob1,oH r.2.1 ob2,bX];dsimp only[oB,oT,oF,oN];rw[aD i2];try rfl
theorem JS(n:Nat)(i:Int):KM n i i=true:=by
 unfold KM;induction n with
 | zero=>rfl
 | succ n ih=>exact(Bool.and_eq_true_iff (x:=Nat.beq i.toNat i.toNat)).2 ⟨Nat.beq_refl _,ih⟩
theorem adB(b:List ax)(q:fw)(now:Int)(hb:dJ b)(hq:DR q):g67 (b,()) q now=some ((),(((dk b q now).1,()),((dk b q now).2.1,()),((dk b q now).2.2,()),())):=by
 have hi:=hq.2.2.1;have a1:=Aa b q.2.1 hb.1;have a2:=Aa b q.2.2.1 hb.1;have a3:=yX b hb;unfold g67 dk;rw[Sa b hb,aaL q hq,iP,a1,a2];dsimp only[oB];cases ji b <;> first | rfl | skip
 cases lg q <;> first | rfl | skip
 cases bh now <;> first | rfl | skip
 dsimp only[oT,oF,oN];obtain⟨op,acct,other,hold,trace,ed,bJ,ny,_⟩:=q;dsimp only at hi ⊢;cases h6:aj op 6 with
 | true =>
   obtain rfl:=bt.1 h6;have t1:aj (6:Int) 1=false:=rfl;have t2:aj (6:Int) 2=false:=rfl;have t3:aj (6:Int) 3=false:=rfl;have t4:aj (6:Int) 4=false:=rfl;have t5:aj (6:Int) 5=false:=rfl;have t6:aj (6:Int) 6=true:=rfl;dsimp only[oT];by_cases n1:ar b acct<0
   . rw[aR n1];try rfl
   by_cases n2:ar b other<0
   . rw[aF n1,aR n2];try rfl
   obtain⟨i,y,i1,i2⟩:=eO n1;obtain⟨k,z,j1,j2⟩:=eO n2;have hy:=hb.2 y (amk i2);have hz:=hb.2 z (amk j2);have e1:gt d94 b (i:Int)=y:=aM _ i2;have e2:gt d94 b (k:Int)=z:=aM _ j2;have e3:gt aK b (i:Int)=y:=aM _ i2;have e4:gt aK b (k:Int)=z:=aM _ j2;have ho:=abh y z hold now hy hz hi;have fD:mP y z (6,acct,other,hold,trace,ed,bJ,ny,()) now=((gr y z hold now).1,(gr y z hold now).2.1,(gr y z hold now).2.2,[]):=rfl;rw[aF n1,aF n2,i1,j1,t1,t2,t3,t4,t5,a3,e3,e4,fD];generalize gr y z hold now=r at ho ⊢;dsimp only[oB,oT,oF];rw[aD i2,aD j2,e1,e2,ho];dsimp only[oB,oT,oF];cases aj r.2.2 0 with
   | false=>rfl
   | true =>
     have hlen:(cZ b (k:Int) r.2.1).length=b.length:=by unfold cZ; rw[ano]
     have kL:aX (i:Int) (cZ b (k:Int) r.2.1)=true:=im (by rw[hlen]; exact ah i2);dsimp only[oT,oF,oN];rw[kL];try rfl
 | false =>
   dsimp only[oF];by_cases n1:ar b acct<0
   . rw[aR n1];try rfl
   obtain⟨i,y,i1,i2⟩:=eO n1;have hy:=hb.2 y (amk i2);have e1:gt d94 b (i:Int)=y:=aM _ i2;have e3:gt aK b (i:Int)=y:=aM _ i2;rw[aF n1,i1,a3,e3];dsimp only[oB,oT,oF];rw[aD i2,e1,aca y _ _ _ now hy hi,adv y _ _ now hy hi,af9 y _ _ _ now hy hi,ac4 y _ now hy hi,afu y now hy,V5 y now hy,JS];unfold mP;dsimp only[oB,oT,oF];rw[h6];cases aj op 1 with
   | true=>dsimp only[oT]; cases aj (lP y hold bJ ny now).2 0 <;> rfl
   | false =>
   cases aj op 2 with
   | true=>dsimp only[oT,oF]; cases aj (lN y hold bJ now).2 0 <;> rfl
   | false =>
   cases aj op 3 with
   | true=>dsimp only[oT,oF]; cases aj (pq y hold bJ (aj op 4) now).2 0 <;> rfl
   | false =>
   cases h4:aj op 4 with
   | true=>dsimp only[oT,oF]; cases aj (pq y hold bJ true now).2 0 <;> rfl
   | false =>
   cases aj op 5 with
   | true=>dsimp only[oT,oF]; cases aj (lK y hold now).2 0 <;> rfl
   | false =>
   cases aj op 7 with
   | true=>dsimp only[oT,oF]; cases aj (xk y now).2 0 <;> rfl
   | false=>dsimp only[oT,oF]; cases aj (iM y now).2 0 <;> rfl
abbrev aJ:=List (Int×Unit)
def CQ(b:aJ):Prop:=b.length<=1048576/\∀ x∈b,0<=x.1/\x.1<=255
def gR(b:aJ)(a k:Nat):aJ:=(b.drop a).take k
theorem QB(b:aJ)(a k:Nat):sub b (a:Int) ((a+k:Nat):Int)=gR b a k:=by unfold sub gR;rw[ank,ank,List.drop_take,am2]
theorem pb{b:aJ}{a k:Nat}(h:a+k<=b.length):(gR b a k).length=k:=by unfold gR;rw[am5,an6];omega
theorem RT{b:aJ}{a k i:Nat}{x:Int×Unit}(h:(gR b a k)[i]? = some x):i<k/\b[a+i]? = some x:=by
 unfold gR at h;rw[anl]at h;split at h
 . rw[anm]at h;exact⟨by assumption,h⟩
 . simp at h
theorem adw{b:aJ}{a k:Nat}{x:Int×Unit}(h:x∈gR b a k):x∈b:=aoB (aoY h)
theorem Ld{b:aJ}{a k:Nat}(h:a+k<=b.length):eV (a:Int) ((a+k:Nat):Int) b=true:=by show(decide ((0:Int)<=(a:Int))&&(decide ((a:Int)<=((a+k:Nat):Int))&&decide (((a+k:Nat):Int)<=(b.length:Int))))=true;rw[amg (by omega),amg (by omega),amg (by omega)];try rfl
theorem DW(b:aJ)(a k:Nat)(hb:b.length<=1048576)(ha:a<=b.length)(hk:k<=1048576):DL b a k=some ((),(if a+k<=b.length then ((gR b a k,()),(true,()),())else (([],()),(false,()),()))):=by
 unfold DL;have e:bf .i64 (ae b) (a:Int)=(b.length:Int)-a:=bI (by show -4611686018427387904<=(b.length:Int)-a; omega) (by show(b.length:Int)-a<=_; omega);have i1:da (a:Int) 0 (ae b)=true:=bB.2 ⟨by omega,by show(a:Int)<=(b.length:Int); omega⟩;have e2:ak .i64 (a:Int) (k:Int)=((a+k:Nat):Int):=by rw[bd (by omega) (by omega)]; omega
 dsimp only;rw[lC,e,e2];dsimp only[oB];rw[i1,aF (a:=(k:Int)) (b:=0) (by omega)];by_cases h:a+k<=b.length
 . rw[aF (by omega),if_pos h,Ld h,QB];try rfl
 . rw[aR (by omega),if_neg h];try rfl
def dE(s:S8):Bool:=s.all fun x=>cond (aE (x.toNat:Int) 32) false (!(aE 126 (x.toNat:Int)))
theorem Lk(s:S8)(hs:s.length<=bQ):Ey s=zR (dE s):=by
 unfold Ey;have h:=aS (step:=Az tK) s (fun i (_:Unit)=>(s,((i:Nat):Int),())) (fun _ x _=>bif cond (aE (x.toNat:Int) 32) false (!(aE 126 (x.toNat:Int)))then Sum.inl ()else .inr (.inr (false,()))) (fun _=> .inl (s,(s.length:Int),())) (a0:=()) (fun i x a hx=>by
  have aV:=ah hx;show tK s (i:Int)=_;unfold tK;rw[aL hx,aD hx,fX hx,aU (by omega)];dsimp only[oT];cases aE (x.toNat:Int) 32 <;> cases aE 126 (x.toNat:Int) <;> rfl) (fun a=>by
  show tK s (s.length:Int)=_;unfold tK;rw[aA rfl];try rfl)
 rw[j9]at h;have h':TL s 0=_:=h;rw[h'];unfold dE;cases s.all _ <;> rfl
theorem V8(s:S8)(hs:s.length<=bQ):Ol s=zR (dE s):=by
 unfold Ol;have h:=aS (step:=fE um) s (fun i (_:Unit)=>(s,ae s,((i:Nat):Int),())) (fun _ x _=>bif cond (aE (x.toNat:Int) 32) false (!(aE 126 (x.toNat:Int)))then Sum.inl ()else .inr (.inr (false,()))) (fun _=> .inl (s,ae s,(s.length:Int),())) (a0:=()) (fun i x a hx=>by
  have aV:=ah hx;show um s (ae s) (i:Int)=_;unfold um;rw[aL hx,aD hx,fX hx,aU (by omega)];dsimp only[oT];cases aE (x.toNat:Int) 32 <;> cases aE 126 (x.toNat:Int) <;> rfl) (fun a=>by
  show um s (ae s) (s.length:Int)=_;unfold um;rw[aA rfl];try rfl)
 rw[j9]at h;have h':SC s (ae s) 0=_:=h;rw[h'];unfold dE;cases s.all _ <;> rfl
def nZ(acc:Nat)(s:S8):Nat:=s.foldl (fun n x=>n * 10+(x.toNat-48)) acc
theorem D8:∀(s:S8) (acc k:Nat),s.all fL=true->acc<10 ^ k->nZ acc s<10 ^ (k+s.length)
 | [],acc,k,_,h=>h
 | x::s,acc,k,hd,h=>by simp only[am8,ame]at hd;have:=di.1 hd.1;have h2:=D8 s (acc * 10+(x.toNat-48)) (k+1) hd.2 (by rw[Nat.pow_succ]; omega);rw[ams,show k+(s.length+1)=k+1+s.length by omega];exact h2
theorem Fz:∀(s:S8) (acc:Nat),s.all fL=true->nZ acc s<1844674407370955162->Lib.parseUint10 acc s= .ok (nZ acc s)
 | [],acc,_,_=>rfl
 | x::s,acc,hd,h=>by
   simp only[am8,ame]at hd;have hx:=di.1 hd.1;have ah8:∀(s:S8) (a:Nat),a<=nZ a s:=fun s=>by
    induction s with
    | nil=>intro a; exact oR _
    | cons y s ih=>intro a; exact aml (by omega) (ih (a * 10+(y.toNat-48)))
   have h1:=ah8 s (acc * 10+(x.toNat-48));have h:nZ (acc * 10+(x.toNat-48)) s<1844674407370955162:=h;have ih:=Fz s (acc * 10+(x.toNat-48)) hd.2 h;unfold Lib.parseUint10;rw[if_pos hx,if_neg (by omega),if_neg (by omega),ih];try rfl
theorem dM{s:S8}:aH s=true↔s.all fL=true/\s≠[]:=by
 unfold aH;cases s.all fL with
 | false=>simp
 | true=>cases s <;> simp[aE,ae]
def B0(s:S8):Option Nat:=if aH s=true/\s.length<=18 then some (nZ 0 s)else none
def VX(o:Option Nat):Option (Unit×((Int×Unit)×(Bool×Unit)×Unit)):=some ((),match o with | some n=>(((n:Int),()),(true,()),()) | none=>((0,()),(false,()),()))
theorem ZS(s:S8)(hs:s.length<=bQ):I9 s=VX (B0 s):=by
 unfold I9 yw B0;rw[iZ s hs];dsimp only[oB];cases hd:aH s with
 | false=>rfl
 | true =>
   by_cases v8:s.length<=18
   . rw[if_pos ⟨rfl,v8⟩,amm v8];obtain⟨h1,h2⟩:=dM.1 hd;have hb:=D8 s 0 0 h1 (by decide);have l6:nZ 0 s<1000000000000000000:=amC hb (by rw[amp]; exact aor (by decide) v8);have hu:=Fz s 0 h1 (by omega);have hv:Lib.atoiAll s= .ok (nZ 0 s:Int):=by
      cases s with
      | nil=>exact absurd rfl h2
      | cons c r => have hc:=amx.1 h1 c (by simp);have hc:=di.1 hc;rw[Lib.atoiAll_plain c r (by omega) (by omega)];unfold Lib.parseMag;rw[if_neg (by simp),hu];show(if 9223372036854775808<=nZ 0 (c::r)then _ else _)=_;rw[if_neg (by omega)]
     rw[hv];try rfl
   . rw[if_neg (fun h=>v8 h.2)];have:Nat.ble s.length 18=false:=by
      cases h:Nat.ble s.length 18 with
      | false=>rfl
      | true=>exact absurd (amA h) v8
     rw[this];try rfl
theorem K0(s:S8)(hs:s.length<=bQ):O3 s=VX (B0 s):=by
 have bp:=bk;unfold O3 B0;rw[gi s hs];dsimp only[oB];cases hd:aH s with
 | false=>rfl
 | true =>
   by_cases v8:s.length<=18
   . rw[if_pos ⟨rfl,v8⟩,aF (by show ¬ (18:Int)<(s.length:Int); omega)];obtain⟨h1,h2⟩:=dM.1 hd;have h:=aP (step:=fE zk) s (fun i (a:Nat)=>(s,(a:Int),((i:Nat):Int),())) (fun _ x a=>Sum.inl (a * 10+(x.toNat-48))) (fun a=> .inl (s,(a:Int),(s.length:Int),())) (fun i a=>a<10 ^ i) (a0:=0) (by decide) (fun i x a hx ha=>by
      have aV:=ah hx;have hc:=di.1 (amx.1 h1 x (amk hx));have h17:a<10 ^ 17:=amC ha (aor (by decide) (by omega));have amc:a<100000000000000000:=h17;show zk s (a:Int) (i:Int)=_;unfold zk;have m:yg .i64 (a:Int) 10=((a * 10:Nat):Int):=by unfold yg; rw[IntKind.wrap_i64]; omega
      have c:dC .i64 (x.toNat:Int)=(x.toNat:Int):=by unfold dC; rw[IntKind.wrap_i64]; omega
      rw[aL hx,aD hx,fX hx,aU (by omega),m,c,bd (by omega) (by omega),bI (by omega) (by omega)];dsimp only[oT];rw[show((a * 10:Nat):Int)+(x.toNat:Int)-48=((a * 10+(x.toNat-48):Nat):Int)by omega]) (fun i x a a' hx ha hf=>by
      have hc:=di.1 (amx.1 h1 x (amk hx));simp only[amu]at hf;rw[<- hf,Nat.pow_succ];omega) (fun a ha=>by
      show zk s (a:Int) (s.length:Int)=_;unfold zk;rw[aA rfl];try rfl)
     rw[bS]at h;have h':Zl s 0 0=_:=h;rw[h'];try rfl
   . rw[if_neg (fun h=>v8 h.2),aR (by show(18:Int)<(s.length:Int); omega)];try rfl
theorem qa{s t:S8}(h:s.length+t.length<=bQ):jL s t=true:=amm h
def UT(x:Int×Unit):S8:=[UInt8.ofNat (48+x.1.toNat / 16),UInt8.ofNat (48+x.1.toNat % 16)]
def sM(l:aJ):S8:=(l.map UT).flatten
theorem vo:∀ l:aJ,(sM l).length=2 * l.length
 | []=>rfl
 | x::r=>by have:=vo r;unfold sM at this ⊢;simp only[amO,List.flatten_cons,amf,this,UT,ams,amZ];omega
def Dw:S8->aJ
 | []=>[]
 | x::r=>((x.toNat:Int),())::Dw r
theorem wJ:∀ q:S8,strOf (Dw q)=q
 | []=>rfl
 | x::r=>by show UInt8.ofNat (Int.toNat (x.toNat:Int))::strOf (Dw r)=_;rw[wJ r,ank];simp
theorem yA:∀ q:S8,(Dw q).length=q.length
 | []=>rfl
 | x::r=>amL (· + 1) (yA r)
theorem Ko:∀ q r:S8,Dw (q++r)=Dw q++Dw r
 | [],r=>rfl
 | x::q,r=>amL (((x.toNat:Int),()) :: ·) (Ko q r)
theorem FM:∀(n:Nat) (q:S8),(Dw q).drop n=Dw (q.drop n)
 | 0,q=>by simp
 | n+1,[]=>rfl
 | n+1,x::r=>FM n r
def je(b:aJ)(a n:Nat):Option S8 :=
 if 1<=n/\n<=38/\a+(n+1) / 2<=b.length then
  (if (sM (gR b a ((n+1) / 2))).all fL=true/\(n % 2=1->(sM (gR b a ((n+1) / 2))).head? = some 48)then some ((sM (gR b a ((n+1) / 2))).drop (n % 2))else none)
 else none
def uQ(o:Option S8)(e:Int):Option (Unit×((S8×Unit)×(Int×Unit)×(Bool×Unit)×Unit)):=some ((),match o with | some s=>((s,()),(e,()),(true,()),()) | none=>(([],()),(0,()),(false,()),()))
theorem Ep{s:S8}:s.head? = some 48↔∃ r,s=48::r:=by
 cases s with
 | nil=>simp
 | cons x r=>simp
theorem TX(n:Nat)(h:n<=1048576):kq .i64 (ak .i64 (n:Int) 1) 2=(((n+1) / 2:Nat):Int):=by rw[bd (by omega) (by omega)];unfold kq;rw[anO (by omega),IntKind.wrap_i64];omega
theorem KT(n:Nat):aj (eH (n:Int) 2) 1=decide (n % 2=1):=by
 unfold aj eH;rw[anw (by omega)];by_cases h:n % 2=1
 . rw[amg h]; exact beq_iff_eq.2 (by omega)
 . rw[amB h]; exact beq_eq_false_iff_ne.2 (by omega)
theorem aeT(x:Int×Unit)(h:0<=x.1/\x.1<=255):strOf [((dC .u8 (ak .i64 48 (kq .i64 (dC .i64 x.1) 16))),()),((dC .u8 (ak .i64 48 (eH (dC .i64 x.1) 16))),())]=UT x:=by
 obtain⟨⟨n,hn⟩,hn2⟩:(∃ n:Nat,x.1=n)/\x.1<=255:=⟨⟨x.1.toNat,by omega⟩,h.2⟩;have c:dC .i64 x.1=(n:Int):=by unfold dC; rw[IntKind.wrap_i64]; omega
 have q:kq .i64 (n:Int) 16=((n / 16:Nat):Int):=by unfold kq; rw[anO (by omega),IntKind.wrap_i64]; omega
 have r:eH (n:Int) 16=((n % 16:Nat):Int):=by unfold eH; rw[anw (by omega)]; omega
 have u:∀ k:Nat,k<=16->dC .u8 (ak .i64 48 (k:Int))=((48+k:Nat):Int):=fun k hk=>by rw[bd (by omega) (by omega)]; unfold dC; rw[IntKind.wrap_u8]; omega
 rw[c,q,r,u _ (by omega),u _ (by omega)];unfold strOf UT;rw[hn];try rfl
theorem agM:∀ c:Fin 256,ak .u8 48 (rH .u8 (c.val:Int) 4)=((48+c.val / 16:Nat):Int)/\ak .u8 48 (MP .u8 (c.val:Int) 15)=((48+c.val % 16:Nat):Int):=by decide +kernel
theorem Nq{s:S8}(h:∃ r,s=48::r):(s.drop 1).all fL=s.all fL:=by obtain⟨r,rfl⟩:=h;rfl
theorem Ra{s:S8}(hs:s≠[]):aj (fh s 0) 48=true↔∃ r,s=48::r:=by
 cases s with
 | nil=>exact absurd rfl hs
 | cons x r =>
   show((x.toNat:Int) == 48)=true↔_;rw[beq_iff_eq];refine⟨fun h=>⟨r,?_⟩,fun⟨r',h⟩ => ?_⟩
   . have:x=48:=UInt8.toNat_inj.1 (by show x.toNat=48; omega);rw[this]
   . rw[(List.cons.inj h).1];try rfl
theorem qf{s:S8}(hs:s≠[]):aH s=s.all fL:=by
 cases h:s.all fL with
 | true=>exact dM.2 ⟨h,hs⟩
 | false =>
   cases h2:aH s with
   | false=>rfl
   | true=>rw[(dM.1 h2).1]at h; simp at h
theorem XI{s:S8}{n:Nat}(h:n<s.length):s.drop n≠[]:=fun e=>by have:=amL List.length e;rw[an6]at this;simp only[amZ]at this;omega
theorem Hg(b:aJ)(a n:Nat)(hb:CQ b)(ha:a<=b.length)(hn:n<=1048576):Oc b a n=uQ (je b a n) ((a+(n+1) / 2:Nat):Int):=by
 have bp:=bk;have hl:=hb.1;unfold Oc je;have e:bf .i64 (ae b) (a:Int)=(b.length:Int)-a:=bI (by show -4611686018427387904<=(b.length:Int)-a; omega) (by show(b.length:Int)-a<=_; omega);have hq:=TX n hn;dsimp only;rw[e,hq,aF (a:=(a:Int)) (b:=0) (by omega),aF (a:=ae b) (b:=(a:Int)) (by show ¬ (b.length:Int)<a; omega)];by_cases h1:1<=n/\n<=38;rotate_left
 . rw[if_neg (fun h=>h1 ⟨h.1,h.2.1⟩)];by_cases h0:(n:Int)<1
   . rw[aR h0];try rfl
   . rw[aF h0,aR (by omega)];try rfl
 rw[aF (a:=(n:Int)) (b:=1) (by omega),aF (a:=38) (b:=(n:Int)) (by omega)];dsimp only[oF,oT];by_cases h2:a+(n+1) / 2<=b.length;rotate_left
 . rw[if_neg (fun h=>h2 h.2.2),aR (by omega)];try rfl
 rw[if_pos ⟨h1.1,h1.2,h2⟩,aF (by omega)];dsimp only[oF];have hpl:=pb h2;have h:=aP (step:=pZ AL) (gR b a ((n+1) / 2)) (fun i (o:S8)=>(b,(a:Int),(n:Int),o,((a+i:Nat):Int),())) (fun _ x o=>Sum.inl (o++UT x)) (fun o=> .inl (b,(a:Int),(n:Int),o,((a+(n+1) / 2:Nat):Int),())) (fun i o=>o.length=2 * i) (a0:=[]) rfl (fun i x o hx ho=>by
  obtain⟨hik,hg⟩:=RT hx;have aV:=ah hg;show AL b (a:Int) (n:Int) o ((a+i:Nat):Int)=_;unfold AL;rw[hq,bd (by omega) (by omega),aR (by omega),aD hg,aM _ hg];dsimp only[oT];rw[aeT x (hb.2 x (amk hg)),qa (by show o.length+2<=bQ; omega),aU (by omega)];try rfl) (fun i x o o' hx ho hf=>by
  simp only[amu]at hf;rw[<- hf,amf,ho];show 2 * i+2=_;omega) (fun o ho=>by
  show AL b (a:Int) (n:Int) o ((a+(gR b a ((n+1) / 2)).length:Nat):Int)=_;unfold AL;rw[hq,bd (by omega) (by omega),hpl,aF (by omega)];try rfl)
 have BP:∀(l:aJ) (o:S8),l.foldl (fun o x=>o++UT x) o=o++sM l:=fun l=>by
  induction l with
  | nil=>intro o; simp[sM]
  | cons x r ih=>intro o; rw[am7,ih]; simp[sM]
 rw[bS,BP,an1]at h;have h':Zi b (a:Int) (n:Int) [] (a:Int)=_:=h;rw[h'];generalize hs:sM (gR b a ((n+1) / 2))=s;have Kb:s.length=2 * ((n+1) / 2):=by rw[<- hs,vo,hpl]
 have OX:s≠[]:=fun e=>by rw[e]at Kb; simp only[amZ]at Kb; omega
 dsimp only[oB,oL];rw[KT,hq,bd (by omega) (by omega),show(a:Int)+(((n+1) / 2:Nat):Int)=((a+(n+1) / 2:Nat):Int)by omega];by_cases hp:n % 2=1
 . rw[amg hp,hp];have i0:aX 0 s=true:=im (i:=0) (by omega);have c1:eV 1 (ae s) s=true:=by
    show(decide ((0:Int)<=1)&&(decide ((1:Int)<=(s.length:Int))&&decide ((s.length:Int)<=(s.length:Int))))=true;rw[amg (by omega),amg (by omega),amg (by omega)];try rfl
   have sb:sub s 1 (ae s)=s.drop 1:=by show(s.take (Int.toNat (s.length:Int))).drop 1=_;rw[ank,aoD]
   rw[i0];dsimp only[oT];by_cases OT:∃ r,s=48::r
   . rw[(Ra OX).2 OT];rw[c1,sb,gi _ (by rw[an6]; omega),qf (XI (by omega)),Nq OT];dsimp only[oT,oB];cases hd:s.all fL with
     | false=>rw[if_neg (fun h=>by simp at h)];try rfl
     | true=>rw[if_pos ⟨rfl,fun _=>Ep.2 OT⟩];try rfl
   . have:aj (fh s 0) 48=false:=by
      cases h:aj (fh s 0) 48 with
      | false=>rfl
      | true=>exact absurd ((Ra OX).1 h) OT
     rw[this,if_neg (fun h=>OT (Ep.1 (h.2 rfl)))];try rfl
 . rw[amB hp];have BV:n % 2=0:=by omega
   rw[BV];dsimp only[oF];rw[gi _ (by omega),qf OX];dsimp only[oB];cases hd:s.all fL with
   | false=>rw[if_neg (fun h=>by simp at h)];try rfl
   | true=>rw[if_pos ⟨rfl,fun h=>by simp at h⟩];try rfl
theorem KD(b:aJ)(a n:Nat)(hb:CQ b)(ha:a<=b.length)(hn:n<=1048576):Sw b a n=uQ (je b a n) ((a+(n+1) / 2:Nat):Int):=by
 have bp:=bk;have hl:=hb.1;unfold Sw je;rw[lC,TX n hn];dsimp only[oB];by_cases h1:1<=n/\n<=38;rotate_left
 . rw[if_neg (fun h=>h1 ⟨h.1,h.2.1⟩)];have:da (n:Int) 1 38=false:=by
    cases h:da (n:Int) 1 38 with
    | false=>rfl
    | true=>have:=bB.1 h; omega
   rw[this];try rfl
 rw[bB.2 (by omega:(1:Int)<=n/\(n:Int)<=38),DW b a _ hl ha (by omega)];have aa0:∀(t9:aJ) (t10:Bool) (p:aJ),(∀ x∈p,0<=x.1/\x.1<=255)->p.length<=20->Yy (a:Int) (n:Int) t9 t10 [] p (ae p) 0=some (.inl ((a:Int),(n:Int),t9,t10,Dw (sM p),p,ae p,(p.length:Int),())):=fun t9 t10 p hp hpl=>by
  have h:=aP (step:=Xe Bj) p (fun i (o:aJ)=>((a:Int),(n:Int),t9,t10,o,p,ae p,((i:Nat):Int),())) (fun _ x o=>Sum.inl (o++Dw (UT x))) (fun o=> .inl ((a:Int),(n:Int),t9,t10,o,p,ae p,(p.length:Int),())) (fun i o=>o.length=2 * i) (a0:=[]) rfl (fun i x o hx ho=>by
   have aV:=ah hx;have hx2:=hp x (amk hx);show Bj (a:Int) (n:Int) t9 t10 o p (ae p) (i:Int)=_;unfold Bj;rw[aL hx,aD hx,aM _ hx,aU (by omega)];obtain⟨k,hk⟩:∃ k:Nat,x.1=k:=⟨x.1.toNat,by omega⟩;have hf:=agM ⟨k,by omega⟩;dsimp only at hf;rw[hk,hf.1,hf.2];dsimp only[oT];have:∀ ys:aJ,ys.length=2->bl 1 o ys=true:=fun ys hy=>amm (by rw[hy]; omega)
   rw[this _ rfl];have e1:∀ m:Nat,m<256->(UInt8.ofNat m).toNat=m:=fun m hm=>by simp[aoA hm]
   show some (Sum.inl _)=some (Sum.inl _);unfold UT;rw[hk];simp only[ank,Dw,fQ,e1 (48+k / 16) (by omega),e1 (48+k % 16) (by omega)]) (fun i x o o' hx ho hf=>by
   simp only[amu]at hf;rw[<- hf,amf,ho];show 2 * i+2=_;omega) (fun o ho=>by
   show Bj (a:Int) (n:Int) t9 t10 o p (ae p) (p.length:Int)=_;unfold Bj;rw[aA rfl];try rfl)
  have BP:∀(l:aJ) (o:aJ),l.foldl (fun o x=>o++Dw (UT x)) o=o++Dw (sM l):=fun l=>by
   induction l with
   | nil=>intro o; show o=o++[]; rw[amV]
   | cons x r ih=>intro o; rw[am7,ih,show sM (x::r)=UT x++sM r from rfl,Ko,amD]
  rw[bS,BP,an1]at h;exact h
 by_cases h2:a+(n+1) / 2<=b.length;rotate_left
 . rw[if_neg h2,if_neg (fun h=>h2 h.2.2)];exact(bn (aa0 [] false [] (fun x hx=>by simp at hx) (by simp))).trans rfl
 rw[if_pos h2,if_pos ⟨h1.1,h1.2,h2⟩];have hpl:=pb h2;refine(bn (aa0 _ true _ (fun x hx=>hb.2 x (adw hx)) (by omega))).trans ?_;generalize hs:sM (gR b a ((n+1) / 2))=s;have Kb:s.length=2 * ((n+1) / 2):=by rw[<- hs,vo,hpl]
 have OX:s≠[]:=fun e=>by rw[e]at Kb; simp only[amZ]at Kb; omega
 show Option.bind (wK (strOf (Dw s))) _=_;rw[wJ,iZ _ (by omega),qf OX];generalize hm:Dw s=m;have hlm:ae m=(s.length:Int):=by rw[<- hm]; show((Dw s).length:Int)=_; rw[yA]
 have UJ:bf .i64 (s.length:Int) (n:Int)=((n % 2:Nat):Int):=by rw[bI (by omega) (by omega)]; omega
 have hpc:ae (gR b a ((n+1) / 2))=(((n+1) / 2:Nat):Int):=by show((gR b a _).length:Int)=_; rw[hpl]
 have c1:eV ((n % 2:Nat):Int) (s.length:Int) m=true:=by show(decide ((0:Int)<=((n % 2:Nat):Int))&&(decide (((n % 2:Nat):Int)<=(s.length:Int))&&decide ((s.length:Int)<=(m.length:Int))))=true;rw[show(m.length:Int)=(s.length:Int)from hlm,amg (by omega),amg (by omega),amg (by omega)];try rfl
 have sb:strOf (sub m ((n % 2:Nat):Int) (s.length:Int))=s.drop (n % 2):=by rw[<- hm];show strOf (((Dw s).take (Int.toNat (s.length:Int))).drop (Int.toNat ((n % 2:Nat):Int)))=_;rw[ank,ank,anQ (by rw[yA]; exact oR _)];exact(amL strOf (FM _ _)).trans (wJ _)
 have hF:(cond (eV (bf .i64 (ae m) (n:Int)) (ae m) m) (some ((),((strOf (sub m (bf .i64 (ae m) (n:Int)) (ae m)),()),(ak .i64 (a:Int) (ae (gR b a ((n+1) / 2))),()),(true,()),()))) none:Option (Unit×((S8×Unit)×(Int×Unit)×(Bool×Unit)×Unit)))=uQ (some (s.drop (n % 2))) ((a+(n+1) / 2:Nat):Int):=by rw[hlm,UJ,hpc,bd (by omega) (by omega),c1,sb,show(a:Int)+(((n+1) / 2:Nat):Int)=((a+(n+1) / 2:Nat):Int)by omega];try rfl
 show cond (!(s.all fL)) (some ((),(([],()),(0,()),(false,()),()))) (cond (aj (eH (n:Int) 2) 1) (cond (aX 0 m) (cond (!(aj (gt (0,()) m 0).1 48)) (some ((),(([],()),(0,()),(false,()),()))) (cond (eV (bf .i64 (ae m) (n:Int)) (ae m) m) (some ((),((strOf (sub m (bf .i64 (ae m) (n:Int)) (ae m)),()),(ak .i64 (a:Int) (ae (gR b a ((n+1) / 2))),()),(true,()),()))) none)) none)
  (cond (eV (bf .i64 (ae m) (n:Int)) (ae m) m) (some ((),((strOf (sub m (bf .i64 (ae m) (n:Int)) (ae m)),()),(ak .i64 (a:Int) (ae (gR b a ((n+1) / 2))),()),(true,()),()))) none))=_
 rw[hF,KT];cases hd:s.all fL with
 | false=>rw[if_neg (fun h=>by simp at h)];try rfl
 | true =>
   by_cases hp:n % 2=1
   . rw[amg hp];subst hm;have hm0:∃ x r,s=x::r:=by
      cases s with
      | nil=>exact absurd rfl OX
      | cons x r=>exact⟨x,r,rfl⟩
     obtain⟨x,r,rfl⟩:=hm0;have i0:aX 0 (Dw (x::r))=true:=im (i:=0) (by rw[yA]; simp);rw[i0];show cond (!(aj (x.toNat:Int) 48)) _ _=_;by_cases OT:x.toNat=48
     . have hx:x=48:=UInt8.toNat_inj.1 OT;rw[show aj (x.toNat:Int) 48=true from beq_iff_eq.2 (by omega),if_pos ⟨rfl,fun _=>by rw[hx];try rfl⟩];try rfl
     . rw[show aj (x.toNat:Int) 48=false from beq_eq_false_iff_ne.2 (by omega),if_neg (fun h=>by obtain⟨r',h⟩:=Ep.1 (h.2 hp);rw[(List.cons.inj h).1]at OT;exact OT rfl)];try rfl
   . rw[amB hp,if_pos ⟨rfl,fun h=>absurd h hp⟩];try rfl
def uG(p:aJ)(i:Nat):Bool:=aj (eH (rH .i64 (dC .i64 (p.getD (i / 8) (0,())).1) ((7-i % 8:Nat):Int)) 2) 1
def gb(p:aJ):aJ:=((List.range 64).filter (uG p)).map fun i=>(((i+1:Nat):Int),())
theorem abm:∀(c:Fin 256) (r:Fin 8),(!(aj (MP .u8 (c.val:Int) (rH .u8 128 (r.val:Int))) 0))=aj (eH (rH .i64 (dC .i64 (c.val:Int)) ((7-r.val:Nat):Int)) 2) 1:=by decide +kernel
theorem wX(p:aJ):∀(l:List Nat) (o:aJ),l.foldl (fun o i=>bif uG p i then o++[(((i+1:Nat):Int),())]else o) o=o++(l.filter (uG p)).map fun i=>(((i+1:Nat):Int),())
 | [],o=>by simp
 | i::l,o=>by rw[am7,wX p l,am6];cases uG p i <;> simp
theorem Ly{i x:Nat}(h:(List.range 64)[i]? = some x):x=i/\i<64:=by have:=(amM.1 h);obtain⟨h1,h2⟩:=this;rw[List.getElem_range]at h2;exact⟨h2.symm,by simpa using h1⟩
theorem W7{i:Nat}(h:i<64):bf .i64 ((i+1:Nat):Int) 1=(i:Int)/\kq .i64 (i:Int) 8=((i / 8:Nat):Int)/\eH (i:Int) 8=((i % 8:Nat):Int)/\ck ((i+1:Nat):Int) 64=true:=by
 refine⟨by rw[bI (by omega) (by omega)]; omega,?_,?_,amg (by omega)⟩
 . unfold kq;rw[anO (by omega),IntKind.wrap_i64];omega
 . unfold eH;rw[anw (by omega)];omega
def rQ(b:aJ)(a:Nat):Option (Unit×((aJ×Unit)×(Int×Unit)×(Bool×Unit)×Unit)):=some ((),(if a+8<=b.length then ((gb (gR b a 8),()),(((a+8:Nat):Int),()),(true,()),())else (([],()),(0,()),(false,()),())))
theorem K4(b:aJ)(a k i:Nat)(hi:i<k)(h:a+k<=b.length):∃ x,b[a+i]? = some x/\(gR b a k).getD i (0,())=x/\(gR b a k)[i]? = some x:=by obtain⟨x,hx⟩:∃ x,(gR b a k)[i]? = some x:=⟨_,ami (by rw[pb h]; exact hi)⟩;exact⟨x,(RT hx).2,by rw[ang,hx];try rfl,hx⟩
theorem Rk(b:aJ)(a:Nat)(hb:CQ b)(ha:a<=b.length):J3 b a=rQ b a:=by
 have bp:=bk;have hl:=hb.1;unfold J3 rQ;have e:bf .i64 (ae b) 8=(b.length:Int)-8:=bI (by show -4611686018427387904<=(b.length:Int)-8; omega) (by show(b.length:Int)-8<=_; omega);rw[e,aF (a:=(a:Int)) (b:=0) (by omega)];by_cases h8:a+8<=b.length;rotate_left
 . rw[if_neg h8,aR (by omega)];try rfl
 rw[if_pos h8,aF (by omega)];have h:=aP (step:=eo wE) (List.range 64) (fun i (o:aJ)=>(b,(a:Int),o,((i+1:Nat):Int),())) (fun _ x o=>Sum.inl (bif uG (gR b a 8) x then o++[(((x+1:Nat):Int),())]else o)) (fun o=> .inl (b,(a:Int),o,65,())) (fun i o=>o.length<=i) (a0:=[]) (oR _) (fun i x o hx ho=>by
  obtain⟨rfl,hi⟩:=Ly hx;obtain⟨e1,e2,e3,e4⟩:=W7 hi;obtain⟨c,hc,hd,_⟩:=K4 b a 8 (x / 8) (by omega) h8;show wE b (a:Int) o ((x+1:Nat):Int)=_;unfold wE;have e5:bf .i64 7 ((x % 8:Nat):Int)=((7-x % 8:Nat):Int):=by rw[bI (by omega) (by omega)]; omega
  have e6:ak .i64 (a:Int) ((x / 8:Nat):Int)=((a+x / 8:Nat):Int):=by rw[bd (by omega) (by omega)]; omega
  have lF:uG (gR b a 8) x=aj (eH (rH .i64 (dC .i64 c.1) ((7-x % 8:Nat):Int)) 2) 1:=by unfold uG; rw[hd]
  dsimp only;rw[e4,e1,e2,e3,e5,e6,aD hc,aM _ hc,show ck 0 ((7-x % 8:Nat):Int)=true from amg (by omega),<- lF,aU (by omega)];have:bl 8 o [(((x+1:Nat):Int),())]=true:=amm (by show(o.length+1) * 8<=bQ; omega);rw[this];cases uG (gR b a 8) x <;> rfl) (fun i x o o' hx ho hf=>by
  simp only[amu]at hf;rw[<- hf];cases uG (gR b a 8) x with
  | false=>show o.length<=_; omega
  | true=>show(o++[_]).length<=_; rw[amf]; show o.length+1<=_; omega) (fun o ho=>by
  show wE b (a:Int) o (((List.range 64).length+1:Nat):Int)=_;rfl)
 rw[bS,wX,an1]at h;have h':Px b (a:Int) [] 1=_:=h;refine(bn h').trans ?_;show some ((),((_,()),(ak .i64 (a:Int) 8,()),(true,()),()))=_;rw[bd (by omega) (by omega)];try rfl
theorem Td(b:aJ)(a:Nat)(hb:CQ b)(ha:a<=b.length):GI b a=rQ b a:=by
 have bp:=bk;have hl:=hb.1;unfold GI rQ;have hp:DL b (a:Int) 8=_:=DW b a 8 hl ha (by decide);rw[hp];by_cases h8:a+8<=b.length;rotate_left
 . rw[if_neg h8,if_neg h8];try rfl
 rw[if_pos h8,if_pos h8];generalize hq:gR b a 8=p;have h:=aP (step:=eo wc) (List.range 64) (fun i (o:aJ)=>((a:Int),p,o,((i+1:Nat):Int),())) (fun _ x o=>Sum.inl (bif uG p x then o++[(((x+1:Nat):Int),())]else o)) (fun o=> .inl ((a:Int),p,o,65,())) (fun i o=>o.length<=i) (a0:=[]) (oR _) (fun i x o hx ho=>by
  obtain⟨rfl,hi⟩:=Ly hx;obtain⟨e1,e2,e3,e4⟩:=W7 hi;obtain⟨c,hc,hd,OV⟩:=K4 b a 8 (x / 8) (by omega) h8;rw[hq]at hd OV;have hcb:=hb.2 c (amk hc);show wc (a:Int) p o ((x+1:Nat):Int)=_;unfold wc;obtain⟨k,hk⟩:∃ k:Nat,c.1=k:=⟨c.1.toNat,by omega⟩;have vT:=abm ⟨k,by omega⟩ ⟨x % 8,by omega⟩;dsimp only at vT;have lF:uG p x= !(aj (MP .u8 c.1 (rH .u8 128 ((x % 8:Nat):Int))) 0):=by unfold uG; rw[hd,hk,vT]
  dsimp only;rw[e4,e1,e2,e3,aD OV,aM _ OV,show ck 0 ((x % 8:Nat):Int)=true from amg (by omega),<- lF,aU (by omega)];have:bl 8 o [(((x+1:Nat):Int),())]=true:=amm (by show(o.length+1) * 8<=bQ; omega);rw[this];cases uG p x <;> rfl) (fun i x o o' hx ho hf=>by
  simp only[amu]at hf;rw[<- hf];cases uG p x with
  | false=>show o.length<=_; omega
  | true=>show(o++[_]).length<=_; rw[amf]; show o.length+1<=_; omega) (fun o ho=>by
  show wc (a:Int) p o (((List.range 64).length+1:Nat):Int)=_;rfl)
 rw[bS,wX,an1]at h;have h':Tx (a:Int) p [] 1=_:=h;refine(bn h').trans ?_;show some ((),((_,()),(ak .i64 (a:Int) 8,()),(true,()),()))=_;rw[bd (by omega) (by omega)];try rfl
theorem ow(p:aJ):(gb p).length<=64:=by unfold gb;rw[anK];exact aml (am4 _ _) (by simp)
theorem Tf{p:aJ}{x:Int×Unit}(h:x∈gb p):1<=x.1/\x.1<=64:=by obtain⟨i,hi,rfl⟩:=an5.1 h;have:=anq.1 (ans.1 hi).1;constructor <;> (show _<=_) <;> omega
abbrev Ze:=Int×Int×Int×Unit
def kX:List Ze:=[(2,3,19,()),(3,1,6,()),(4,1,12,()),(7,1,10,()),(11,1,6,()),(14,1,4,()),(37,2,12,()),(38,2,6,()),(39,2,2,()),(41,2,8,()),(48,5,60,()),(49,1,3,()),(54,5,60,()),(95,2,12,()),(102,4,20,()),(103,4,20,())]
def Mv(no:Int):Ze:=(kX.find? fun r=>aj r.1 no).getD (0,0,0,())
def bE(no:Int):Int:=(Mv no).2.1
def gJ(no:Int):Int:=(Mv no).2.2.1
theorem nY{α Y:Type}(p:α->Bool)(y:α->Y)(z:Y):∀(l:List α) (i:Nat),kR (fun _ x (_:Unit)=>bif p x then .inr (y x)else .inl ()) (fun _=>z) i l ()=match l.find? p with | some x=>y x | none=>z
 | [],_=>rfl
 | x::l,i=>by
   have ih:=nY p y z l (i+1);rw[List.find?_cons,kR];cases p x with
   | true=>rfl
   | false=>exact ih
theorem Q9(no:Int):Ms no=some ((),(Mv no,())):=by
 unfold Ms;have h:=aS (step:=pZ we) kX (fun i (_:Unit)=>(no,kX,ae kX,((i:Nat):Int),(0,0,0,()),())) (fun _ x _=>bif aj x.1 no then .inr (.inr (x,()))else .inl ()) (fun _=> .inl (no,kX,ae kX,(kX.length:Int),(0,0,0,()),())) (a0:=()) (fun i x a hx=>by
  have aV:=ah hx;have h16:kX.length=16:=rfl;have bp:=bk;show we no kX (ae kX) (i:Int) (0,0,0,())=_;unfold we;rw[aL hx,aD hx,aM _ hx,aU (by omega)];dsimp only[oT];cases aj x.1 no <;> rfl) (fun a=>by
  show we no kX (ae kX) (kX.length:Int) (0,0,0,())=_;rfl)
 rw[nY]at h;have h':Tu no kX (ae kX) 0 (0,0,0,())=_:=h;refine(bn h').trans ?_;unfold Mv;cases kX.find? _ <;> rfl
theorem wi(no:Int):no=2∨no=3∨no=4∨no=7∨no=11∨no=14∨no=37∨no=38∨no=39∨no=41∨no=48∨no=49∨no=54∨no=95∨no=102∨no=103∨∀ k∈[2,3,4,7,11,14,37,38,39,41,48,49,54,95,102,103],aj no k=false/\aj k no=false:=by
 by_cases h:∀ k∈[2,3,4,7,11,14,37,38,39,41,48,49,54,95,102,103],no≠k
 . have:∀ k∈[2,3,4,7,11,14,37,38,39,41,48,49,54,95,102,103],aj no k=false/\aj k no=false:=fun k hk=>⟨beq_eq_false_iff_ne.2 (h k hk),beq_eq_false_iff_ne.2 (Ne.symm (h k hk))⟩
   iterate 16 right
   exact this
 . simp only[Classical.not_forall,Classical.not_not]at h;obtain⟨k,hk,rfl⟩:=h;simp only[amo,List.not_mem_nil,or_false]at hk;rcases hk with h | h | h | h | h | h | h | h | h | h | h | h | h | h | h | h <;> simp[h]
theorem DE{no:Int}(h:∀ k∈[2,3,4,7,11,14,37,38,39,41,48,49,54,95,102,103],aj no k=false/\aj k no=false):Mv no=(0,0,0,()):=by unfold Mv kX;simp only[List.find?_cons,(h 2 (by simp)).2,(h 3 (by simp)).2,(h 4 (by simp)).2,(h 7 (by simp)).2,(h 11 (by simp)).2,(h 14 (by simp)).2,(h 37 (by simp)).2,(h 38 (by simp)).2,(h 39 (by simp)).2,(h 41 (by simp)).2,(h 48 (by simp)).2,(h 49 (by simp)).2,(h 54 (by simp)).2,(h 95 (by simp)).2,(h 102 (by simp)).2,(h 103 (by simp)).2,List.find?_nil,Option.getD_none]
theorem wD(no:Int):E4 no=zR (bE no):=by
 rcases wi no with rfl | rfl | rfl | rfl | rfl | rfl | rfl | rfl | rfl | rfl | rfl | rfl | rfl | rfl | rfl | rfl | h
 all_goals first | rfl | skip
 unfold E4 bE;rw[DE h];simp only[(h 2 (by simp)).1,(h 3 (by simp)).1,(h 4 (by simp)).1,(h 7 (by simp)).1,(h 11 (by simp)).1,(h 14 (by simp)).1,(h 37 (by simp)).1,(h 38 (by simp)).1,(h 39 (by simp)).1,(h 41 (by simp)).1,(h 48 (by simp)).1,(h 49 (by simp)).1,(h 54 (by simp)).1,(h 95 (by simp)).1,(h 102 (by simp)).1,(h 103 (by simp)).1,oF]
theorem yS(no:Int):J6 no=zR (gJ no):=by
 rcases wi no with rfl | rfl | rfl | rfl | rfl | rfl | rfl | rfl | rfl | rfl | rfl | rfl | rfl | rfl | rfl | rfl | h
 all_goals first | rfl | skip
 unfold J6 gJ;rw[DE h];simp only[(h 2 (by simp)).1,(h 3 (by simp)).1,(h 4 (by simp)).1,(h 7 (by simp)).1,(h 11 (by simp)).1,(h 14 (by simp)).1,(h 37 (by simp)).1,(h 38 (by simp)).1,(h 39 (by simp)).1,(h 41 (by simp)).1,(h 48 (by simp)).1,(h 49 (by simp)).1,(h 54 (by simp)).1,(h 95 (by simp)).1,(h 102 (by simp)).1,(h 103 (by simp)).1,oF]
theorem tP(no:Int):Ef no=zR (bE no):=by unfold Ef; rw[Q9];try rfl
theorem QC(no:Int):Sk no=zR (gJ no):=by unfold Sk; rw[Q9];try rfl
theorem kinds(no:Int):∃ n:Nat,gJ no=n/\((bE no=0/\n=0)∨(bE no=1/\1<=n/\n<=12)∨(bE no=2/\1<=n/\n<=12)∨(bE no=3/\n=19)∨(bE no=4/\n=20)∨(bE no=5/\n=60)):=by
 rcases wi no with rfl | rfl | rfl | rfl | rfl | rfl | rfl | rfl | rfl | rfl | rfl | rfl | rfl | rfl | rfl | rfl | h
 . exact⟨19,rfl,by decide⟩
 . exact⟨6,rfl,by decide⟩
 . exact⟨12,rfl,by decide⟩
 . exact⟨10,rfl,by decide⟩
 . exact⟨6,rfl,by decide⟩
 . exact⟨4,rfl,by decide⟩
 . exact⟨12,rfl,by decide⟩
 . exact⟨6,rfl,by decide⟩
 . exact⟨2,rfl,by decide⟩
 . exact⟨8,rfl,by decide⟩
 . exact⟨60,rfl,by decide⟩
 . exact⟨3,rfl,by decide⟩
 . exact⟨60,rfl,by decide⟩
 . exact⟨12,rfl,by decide⟩
 . exact⟨20,rfl,by decide⟩
 . exact⟨20,rfl,by decide⟩
 . exact⟨0,by unfold gJ; rw[DE h];try rfl,.inl ⟨by unfold bE; rw[DE h],rfl⟩⟩
theorem eM{b:aJ}{a n:Nat}{s:S8}(h:je b a n=some s):s.all fL=true/\s.length=n/\1<=n/\n<=38/\a+(n+1) / 2<=b.length:=by
 unfold je at h;split at h
 . rename_i h1;split at h
   . rename_i h2;cases h;have hl:(sM (gR b a ((n+1) / 2))).length=2 * ((n+1) / 2):=by rw[vo,pb h1.2.2]
     refine⟨amx.2 fun x hx=>amx.1 h2.1 x (aoB hx),?_,h1⟩;rw[an6,hl];omega
   . simp at h
 . simp at h
theorem nU{s:S8}{n:Nat}(h:s.length=n)(hn:1<=n):s≠[]:=fun e=>by rw[e]at h; simp only[amZ]at h; omega
theorem FL{s:S8}{n:Nat}(h:s.all fL=true)(hl:s.length=n)(h1:1<=n)(h2:n<=18):B0 s=some (nZ 0 s):=by unfold B0;rw[if_pos ⟨dM.2 ⟨h,nU hl h1⟩,by omega⟩]
def NI(b:aJ)(a d:Nat):Option (Unit×((Int×Unit)×(Int×Unit)×(Bool×Unit)×Unit)):=some ((),match je b a d with | some t=>(((nZ 0 t:Int),()),(((a+(d+1) / 2:Nat):Int),()),(true,()),()) | none=>((0,()),(0,()),(false,()),()))
theorem Np:O3 []=some ((),((0,()),(false,()),())):=K0 [] (amr _)
theorem agb(b:aJ)(a d:Nat)(hb:CQ b)(ha:a<=b.length)(hd:d=2∨d=3):Qf b a d=NI b a d:=by
 have bp:=bk;unfold Qf NI;have hc:cond (!(aj (d:Int) 2)) (!(aj (d:Int) 3)) false=false:=by rcases hd with rfl | rfl <;> rfl
 rw[hc,Hg b a d hb ha (by omega)];unfold uQ;cases ho:je b a d with
 | none => refine(bn Np).trans ?_;rfl
 | some t => obtain⟨h1,h2,h3,h4,h5⟩:=eM ho;have hn:O3 t=_:=K0 t (by omega);rw[FL h1 h2 h3 (by omega)]at hn;refine(bn hn).trans ?_;rfl
theorem aet(b:aJ)(a d:Nat)(hb:CQ b)(ha:a<=b.length)(hd:d=2∨d=3):ME b a d=NI b a d:=by
 have bp:=bk;unfold ME NI;rw[lC,bB.2 (by omega:(2:Int)<=d/\(d:Int)<=3),KD b a d hb ha (by omega)];unfold uQ;cases ho:je b a d with
 | none=>rfl
 | some t => obtain⟨h1,h2,h3,h4,h5⟩:=eM ho;have hn:I9 t=_:=ZS t (by omega);rw[FL h1 h2 h3 (by omega)]at hn;refine(bn hn).trans ?_;rfl
def dP(no:Int)(s:S8):Bool:=cond (aj (bE no) 1) (cond (aH s) (aj (ae s) (gJ no)) false) (cond (aj (bE no) 2) (cond (dE s) (aj (ae s) (gJ no)) false) (cond (aj (bE no) 3) (cond (aH s) (da (ae s) 1 (gJ no)) false) (cond (aj (bE no) 4) (cond (dE s) (da (ae s) 1 (gJ no)) false) (cond (aj (bE no) 5) (cond (dE s) (da (ae s) 1 (gJ no)) false) false))))
theorem Ag(no:Int)(s:S8)(hs:s.length<=bQ):yk no s=zR (dP no s):=by
 unfold yk dP;rw[wD,yS];dsimp only[oB];rw[gi s hs,Lk s hs];dsimp only[oB];rw[oI];dsimp only[oB];cases aj (bE no) 1 with
 | true=>rfl
 | false =>
 cases aj (bE no) 2 with
 | true=>rfl
 | false =>
 cases aj (bE no) 3 with
 | true =>
   show zR (cond (aH s) (ck (ae s) (gJ no)) false)=zR (cond (aH s) (da (ae s) 1 (gJ no)) false);cases hd:aH s with
   | false=>rfl
   | true =>
     have h1:ck 1 (ae s)=true:=by
      have:=(dM.1 hd).2;cases s with
      | nil=>exact absurd rfl this
      | cons x r=>exact amg (by show(1:Int)<=((r.length+1:Nat):Int); omega)
     unfold da;rw[h1];try rfl
 | false =>
 cases aj (bE no) 4 with
 | true=>cases dE s <;> rfl
 | false =>
 cases aj (bE no) 5 with
 | true=>cases dE s <;> rfl
 | false=>rfl
theorem Ht(no:Int)(s:S8)(hs:s.length<=bQ):sk no s=zR (dP no s):=by
 unfold sk dP;rw[Q9,iZ s hs,V8 s hs];dsimp only[oB];rw[lC];dsimp only[oB];show cond (aj (bE no) 1) _ (cond (aj (bE no) 2) _ (cond (aj (bE no) 3) _ (cond (aj (bE no) 4) _ (cond (aj (bE no) 5) _ _))))=_;cases aj (bE no) 1 with
 | true=>rfl
 | false =>
 cases aj (bE no) 2 with
 | true=>rfl
 | false =>
 cases aj (bE no) 3 with
 | true=>cases aH s <;> rfl
 | false =>
 cases aj (bE no) 4 with
 | true=>cases dE s <;> rfl
 | false =>
 cases aj (bE no) 5 with
 | true=>cases dE s <;> rfl
 | false=>rfl
def sf(b:aJ)(a n:Nat):Option (S8×Nat):=if a+n<=b.length then (bif dE (strOf (gR b a n))then some (strOf (gR b a n),a+n)else none)else none
def vm(b:aJ)(a n:Nat):Option (S8×Nat):=(je b a n).map fun s=>(s,a+(n+1) / 2)
def D4(b:aJ)(a d n:Nat)(f:Nat->Nat->Option (S8×Nat)):Option (S8×Nat):=match je b a d with
 | some t=>if 1<=nZ 0 t/\nZ 0 t<=n then f (a+(d+1) / 2) (nZ 0 t)else none
 | none=>none
def rJ(b:aJ)(a:Nat)(no:Int):Option (S8×Nat) :=
 if bE no=1 then vm b a (gJ no).toNat else if bE no=2 then sf b a (gJ no).toNat
 else if bE no=3 then D4 b a 2 (gJ no).toNat (vm b)else if bE no=4 then D4 b a 2 (gJ no).toNat (sf b)
 else if bE no=5 then D4 b a 3 (gJ no).toNat (sf b)else none
def pA(o:Option (S8×Nat)):Option (Unit×((S8×Unit)×(Int×Unit)×(Bool×Unit)×Unit)):=some ((),match o with | some s=>((s.1,()),((s.2:Int),()),(true,()),()) | none=>(([],()),(0,()),(false,()),()))
theorem nW(p:aJ):(strOf p).length=p.length:=by unfold strOf; exact anK _
theorem Ll(b:aJ)(a n:Nat):(match uQ (je b a n) ((a+(n+1) / 2:Nat):Int)with | some y=>some ((),(y.2.1,y.2.2.1,y.2.2.2.1,())) | none=>none)=pA (vm b a n):=by unfold uQ vm pA;cases je b a n <;> rfl
noncomputable def Xi(b:aJ)(a n:Int):Option (Unit×((S8×Unit)×(Int×Unit)×(Bool×Unit)×Unit)) :=
 cond (cond (aE (ae b) a) true (aE (bf .i64 (ae b) a) n)) (some ((),(([],()),(0,()),(false,()),()))) (cond (eV a (ak .i64 a n) b) (Option.bind (Ey (strOf (sub b a (ak .i64 a n)))) fun y=>cond (!y.2.1.1) (some ((),(([],()),(0,()),(false,()),()))) (cond (eV a (ak .i64 a n) b) (some ((),((strOf (sub b a (ak .i64 a n)),()),(ak .i64 a n,()),(true,()),()))) none)) none)
theorem Pn(b:aJ)(a n:Nat)(hb:CQ b)(ha:a<=b.length)(hn:n<=1048576) :
 Xi b a n=pA (sf b a n):=by
 have bp:=bk;have hl:=hb.1;have e:bf .i64 (ae b) (a:Int)=(b.length:Int)-a:=bI (by show -4611686018427387904<=(b.length:Int)-a; omega) (by show(b.length:Int)-a<=_; omega);have e2:ak .i64 (a:Int) (n:Int)=((a+n:Nat):Int):=by rw[bd (by omega) (by omega)]; omega
 unfold sf Xi;rw[e,e2,aF (a:=ae b) (b:=(a:Int)) (by show ¬ (b.length:Int)<a; omega)];by_cases h:a+n<=b.length;rotate_left
 . rw[if_neg h,aR (by omega)];try rfl
 have hs:strOf (sub b (a:Int) ((a+n:Nat):Int))=strOf (gR b a n):=amL strOf (QB b a n);rw[if_pos h,aF (by omega),Ld h,hs,Lk _ (by rw[nW,pb h]; omega)];dsimp only[oB,oF,oT];cases dE (strOf (gR b a n)) <;> rfl
theorem ahi(b:aJ)(a:Nat)(no:Int)(hb:CQ b)(ha:a<=b.length):g80 b a no=pA (rJ b a no):=by
 have bp:=bk;have hl:=hb.1;obtain⟨n,hn,hk⟩:=kinds no;have h0:aE (a:Int) 0=false:=aF (by omega)
 have aea:∀(d:Nat) (w:Int) (f:Nat->Nat->Option (S8×Nat)) (F:Int->Int->Option (Unit×((S8×Unit)×(Int×Unit)×(Bool×Unit)×Unit))),(d=2∨d=3)->(∀ a' k:Nat,a'<=b.length->k<=1048576->F (a':Int) (k:Int)=pA (f a' k)) ->
  (Option.bind (Qf b a d) fun y5=>cond (!y5.2.2.2.1.1) (some ((),(([],()),(0,()),(false,()),()))) (Option.bind (vf y5.2.1.1 1 (n:Int)) fun y6=>cond (!y6.2.1.1) (some ((),(([],()),(0,()),(false,()),()))) (F y5.2.2.1.1 y5.2.1.1)))=pA (D4 b a d n f):=by
  intro d w f F hd hF;rw[agb b a d hb ha hd];unfold NI D4;cases ho:je b a d with
  | none=>rfl
  | some t =>
    obtain⟨h1,h2,h3,h4,h5⟩:=eM ho;have hv:=D8 t 0 0 h1 (by decide);have hv2:nZ 0 t<1000:=amC hv (by rw[amp,h2]; exact aor (by decide) (by omega:d<=3));dsimp only[oB];rw[oI];dsimp only[oB];by_cases kL:1<=nZ 0 t/\nZ 0 t<=n
    . rw[if_pos kL,bB.2 (by omega)];exact hF _ _ h5 (by omega)
    . rw[if_neg kL];have:da (nZ 0 t:Int) 1 (n:Int)=false:=by
       cases h:da (nZ 0 t:Int) 1 (n:Int)with
       | false=>rfl
       | true=>have:=bB.1 h; omega
      rw[this];try rfl
 unfold g80 rJ;rw[wD,yS,hn,h0];have Ir:Int.toNat (n:Int)=n:=ank n;rcases hk with ⟨hk,hz⟩ | ⟨hk,hz⟩ | ⟨hk,hz⟩ | ⟨hk,hz⟩ | ⟨hk,hz⟩ | ⟨hk,hz⟩
 . rw[hk];try rfl
 . rw[hk,Ir];show(Option.bind (Oc b a n) fun y=>some ((),(y.2.1,y.2.2.1,y.2.2.2.1,())))=pA (vm b a n);rw[Hg b a n hb ha (by omega),<- Ll];try rfl
 . rw[hk,Ir];exact Pn b a n hb ha (by omega)
 . rw[hk,Ir];exact aea 2 0 (vm b) (fun a' k=>Option.bind (Oc b a' k) fun y=>some ((),(y.2.1,y.2.2.1,y.2.2.2.1,()))) (.inl rfl) fun a' k rV Fc=>by show(Option.bind (Oc b (a':Int) (k:Int)) _)=_;rw[Hg b a' k hb rV Fc,<- Ll];try rfl
 . rw[hk,Ir];exact aea 2 0 (sf b) (Xi b) (.inl rfl) fun a' k rV Fc=>Pn b a' k hb rV Fc
 . rw[hk,Ir];exact aea 3 0 (sf b) (Xi b) (.inr rfl) fun a' k rV Fc=>Pn b a' k hb rV Fc
noncomputable def Nb(b:aJ)(no a n:Int):Option (Unit×((S8×Unit)×(Int×Unit)×(Bool×Unit)×Unit)) :=
 Option.bind (Sw b a n) fun y5=>cond (!y5.2.2.2.1.1) (some ((),(([],()),(0,()),(false,()),()))) (Option.bind (sk no y5.2.1.1) fun y6=>cond (!y6.2.1.1) (some ((),(([],()),(0,()),(false,()),()))) (some ((),(y5.2.1,y5.2.2.1,(true,()),()))))
noncomputable def Hb(b:aJ)(no a n:Int):Option (Unit×((S8×Unit)×(Int×Unit)×(Bool×Unit)×Unit)) :=
 Option.bind (DL b a n) fun y5=>cond (!y5.2.2.1.1) (some ((),(([],()),(0,()),(false,()),()))) (Option.bind (sk no (strOf y5.2.1.1)) fun y6=>cond (!y6.2.1.1) (some ((),(([],()),(0,()),(false,()),()))) (some ((),((strOf y5.2.1.1,()),(ak .i64 a n,()),(true,()),()))))
theorem KX(b:aJ)(no:Int)(a n:Nat)(hb:CQ b)(ha:a<=b.length)(hn:n<=1048576):Nb b no a n=pA ((vm b a n).filter fun s=>dP no s.1):=by
 have bp:=bk;unfold Nb vm;rw[KD b a n hb ha hn];unfold uQ;cases ho:je b a n with
 | none=>rfl
 | some s => obtain⟨h1,h2,h3,h4,h5⟩:=eM ho;dsimp only[oB];rw[Ht no s (by omega)];dsimp only[oB,Option.map_some];rw[aob];dsimp only;cases dP no s <;> rfl
def MM(b:aJ)(a n:Nat):Option (S8×Nat):=if a+n<=b.length then some (strOf (gR b a n),a+n)else none
theorem yz(b:aJ)(no:Int)(a n:Nat)(hb:CQ b)(ha:a<=b.length)(hn:n<=1048576):Hb b no a n=pA ((MM b a n).filter fun s=>dP no s.1):=by
 have bp:=bk;have hl:=hb.1;unfold Hb MM;rw[DW b a n hb.1 ha hn];by_cases h:a+n<=b.length;rotate_left
 . rw[if_neg h,if_neg h];try rfl
 rw[if_pos h,if_pos h,aob];have hf:=Ht no (strOf (gR b a n)) (by rw[nW,pb h]; omega);refine(bn hf).trans ?_;have e2:ak .i64 (a:Int) (n:Int)=((a+n:Nat):Int):=by rw[bd (by omega) (by omega)]; omega
 show cond (!(dP no (strOf (gR b a n)))) _ (some ((),((_,()),(ak .i64 (a:Int) (n:Int),()),(true,()),())))=_;rw[e2];dsimp only;cases dP no (strOf (gR b a n)) <;> rfl
theorem Q7(b:aJ)(a d:Nat)(hb:CQ b)(ha:a<=b.length)(hd:d=2∨d=3)(F:Int->Int->Option (Unit×((S8×Unit)×(Int×Unit)×(Bool×Unit)×Unit)))(f:Nat->Nat->Option (S8×Nat))(n:Nat)
 (hF:∀ a' k:Nat,a'<=b.length->k<=1048576->F (a':Int) (k:Int)=pA (if 1<=k/\k<=n then f a' k else none)) :
 (Option.bind (ME b a d) fun y4=>cond (!y4.2.2.2.1.1) (some ((),(([],()),(0,()),(false,()),()))) (F y4.2.2.1.1 y4.2.1.1))=pA (D4 b a d n f):=by
 rw[aet b a d hb ha hd];unfold NI D4;cases ho:je b a d with
 | none=>rfl
 | some t => obtain⟨h1,h2,h3,h4,h5⟩:=eM ho;have hv:=D8 t 0 0 h1 (by decide);have hv2:nZ 0 t<1000:=amC hv (by rw[amp,h2]; exact aor (by decide) (by omega:d<=3));exact hF _ _ h5 (by omega)
theorem lS{s:S8}{n:Nat}(h:s.length=n):ae s=(n:Int):=by show(s.length:Int)=n; rw[h]
theorem uW{k n:Nat}:da (k:Int) 1 (n:Int)=decide (1<=k/\k<=n):=by
 by_cases h:1<=k/\k<=n
 . rw[amg h]; exact bB.2 (by omega)
 . rw[amB h];cases h2:da (k:Int) 1 (n:Int)with
   | false=>rfl
   | true=>have:=bB.1 h2; omega
theorem uB{no:Int}{n:Nat}(hn:gJ no=n)(s:S8):(bE no=1->dP no s=cond (aH s) (aj (ae s) (n:Int)) false)/\(bE no=2->dP no s=cond (dE s) (aj (ae s) (n:Int)) false)/\(bE no=3->dP no s=cond (aH s) (da (ae s) 1 (n:Int)) false) /\
 ((bE no=4∨bE no=5)->dP no s=cond (dE s) (da (ae s) 1 (n:Int)) false):=by
 unfold dP;rw[hn];refine⟨fun h=>by rw[h];try rfl,fun h=>by rw[h];try rfl,fun h=>by rw[h];try rfl,fun h => ?_⟩;rcases h with h | h <;> (rw[h];try rfl)
theorem LF{b:aJ}{no:Int}{n:Nat}(hn:gJ no=n)(hk:bE no=4∨bE no=5)(a k:Nat):(MM b a k).filter (fun s=>dP no s.1)=if 1<=k/\k<=n then sf b a k else none:=by
 unfold MM sf;by_cases h:a+k<=b.length;rotate_left
 . rw[if_neg h,if_neg h]; simp
 rw[if_pos h,if_pos h,aob];dsimp only;rw[(uB hn _).2.2.2 hk,lS (by rw[nW,pb h]:(strOf (gR b a k)).length=k),uW];by_cases kL:1<=k/\k<=n
 . rw[amg kL,if_pos kL]; cases dE (strOf (gR b a k)) <;> rfl
 . rw[amB kL,if_neg kL]; cases dE (strOf (gR b a k)) <;> rfl
theorem aeV(b:aJ)(a:Nat)(no:Int)(hb:CQ b)(ha:a<=b.length):TB b a no=pA (rJ b a no):=by
 have bp:=bk;have hl:=hb.1;obtain⟨n,hn,hk⟩:=kinds no;have Ir:Int.toNat (n:Int)=n:=ank n;have hlen:HH no=zR (cond (aj (bE no) 5) 3 2):=by unfold HH;rw[tP];dsimp only[oB];cases aj (bE no) 5 <;> rfl
 have base:TB b a no=cond (cond (cond (aj (bE no) 3) true (aj (bE no) 4)) true (aj (bE no) 5)) (Option.bind (ME b a (cond (aj (bE no) 5) 3 2)) fun y4=>cond (!y4.2.2.2.1.1) (some ((),(([],()),(0,()),(false,()),()))) (cond (cond (aj (bE no) 1) true (aj (bE no) 3)) (Nb b no y4.2.2.1.1 y4.2.1.1) (Hb b no y4.2.2.1.1 y4.2.1.1)))
  (cond (cond (aj (bE no) 1) true (aj (bE no) 3)) (Nb b no a (n:Int)) (Hb b no a (n:Int))):=by
  unfold TB;rw[QC,tP,hlen,hn];try rfl
 rw[base];unfold rJ;rw[hn,Ir];rcases hk with ⟨hk,hz⟩ | ⟨hk,hz⟩ | ⟨hk,hz⟩ | ⟨hk,hz⟩ | ⟨hk,hz⟩ | ⟨hk,hz⟩
 . rw[hk];show Hb b no a (n:Int)=pA none;rw[yz b no a n hb ha (by omega)];have:∀ s,dP no s=false:=fun s=>by unfold dP; rw[hk];try rfl
   unfold MM;by_cases h:a+n<=b.length
   . rw[if_pos h,aob,this];try rfl
   . rw[if_neg h];try rfl
 . rw[hk];show Nb b no a (n:Int)=pA (vm b a n);rw[KX b no a n hb ha (by omega)];unfold vm;cases ho:je b a n with
   | none=>rfl
   | some s => obtain⟨h1,h2,h3,h4,h5⟩:=eM ho;rw[amE,aob];dsimp only;rw[(uB hn s).1 hk,dM.2 ⟨h1,nU h2 h3⟩,lS h2,bX];try rfl
 . rw[hk];show Hb b no a (n:Int)=pA (sf b a n);rw[yz b no a n hb ha (by omega)];unfold MM sf;by_cases h:a+n<=b.length;rotate_left
   . rw[if_neg h,if_neg h];try rfl
   rw[if_pos h,if_pos h,aob];dsimp only;rw[(uB hn _).2.1 hk,lS (by rw[nW,pb h]:(strOf (gR b a n)).length=n),bX];cases dE (strOf (gR b a n)) <;> rfl
 . rw[hk];exact Q7 b a 2 hb ha (.inl rfl) (Nb b no) (vm b) n fun a' k rV Fc=>by
    rw[KX b no a' k hb rV Fc];unfold vm;cases ho:je b a' k with
    | none => show pA none=pA (if _ then none else none);rw[ite_self]
    | some s =>
      obtain⟨h1,h2,h3,h4,h5⟩:=eM ho;rw[amE,aob];dsimp only;rw[(uB hn s).2.2.1 hk,dM.2 ⟨h1,nU h2 h3⟩,lS h2,uW];by_cases kL:1<=k/\k<=n
      . rw[amg kL,if_pos kL];try rfl
      . rw[amB kL,if_neg kL];try rfl
 . rw[hk];exact Q7 b a 2 hb ha (.inl rfl) (Hb b no) (sf b) n fun a' k rV Fc=>by rw[yz b no a' k hb rV Fc,LF hn (.inl hk)]
 . rw[hk];exact Q7 b a 3 hb ha (.inr rfl) (Hb b no) (sf b) n fun a' k rV Fc=>by rw[yz b no a' k hb rV Fc,LF hn (.inr hk)]
theorem wG{b:aJ}{a:Nat}{no:Int}{s:S8}{e:Nat}(ha:a<=b.length)(h:rJ b a no=some (s,e)):dP no s=true/\s.length<=60/\e<=b.length:=by
 obtain⟨n,hn,hk⟩:=kinds no;have Ir:Int.toNat (n:Int)=n:=ank n;have num:∀ a k,vm b a k=some (s,e)->s.all fL=true/\s.length=k/\1<=k/\e<=b.length:=fun a k h=>by unfold vm at h;obtain⟨q,hq,h⟩:=anP.1 h;cases h;obtain⟨h1,h2,h3,h4,h5⟩:=eM hq;exact⟨h1,h2,h3,h5⟩
 have txt:∀ a k,sf b a k=some (s,e)->dE s=true/\s.length=k/\e<=b.length:=fun a k h=>by
  unfold sf at h;split at h
  . rename_i hl;cases hp:dE (strOf (gR b a k))with
    | false=>rw[hp]at h; simp at h
    | true => rw[hp]at h;cases h;exact⟨hp,by rw[nW,pb hl],hl⟩
  . simp at h
 have var:∀ d f,D4 b a d n f=some (s,e)->∃ a' k,1<=k/\k<=n/\f a' k=some (s,e):=fun d f h=>by
  unfold D4 at h;split at h
  . split at h
    . rename_i kL;exact⟨_,_,kL.1,kL.2,h⟩
    . simp at h
  . simp at h
 unfold rJ at h;rw[hn,Ir]at h;rcases hk with ⟨hk,hz⟩ | ⟨hk,hz⟩ | ⟨hk,hz⟩ | ⟨hk,hz⟩ | ⟨hk,hz⟩ | ⟨hk,hz⟩ <;> rw[hk]at h
 . simp at h
 . obtain⟨h1,h2,h3,h4⟩:=num _ _ h;exact⟨by rw[(uB hn s).1 hk,dM.2 ⟨h1,nU h2 h3⟩,lS h2,bX];try rfl,by omega,h4⟩
 . obtain⟨h1,h2,h4⟩:=txt _ _ h;exact⟨by rw[(uB hn s).2.1 hk,h1,lS h2,bX];try rfl,by omega,h4⟩
 . obtain⟨a',k,k1,k2,h⟩:=var _ _ h;obtain⟨h1,h2,h3,h4⟩:=num _ _ h;exact⟨by rw[(uB hn s).2.2.1 hk,dM.2 ⟨h1,nU h2 h3⟩,lS h2,uW,amg ⟨k1,k2⟩];try rfl,by omega,h4⟩
 . obtain⟨a',k,k1,k2,h⟩:=var _ _ h;obtain⟨h1,h2,h4⟩:=txt _ _ h;exact⟨by rw[(uB hn s).2.2.2 (.inl hk),h1,lS h2,uW,amg ⟨k1,k2⟩];try rfl,by omega,h4⟩
 . obtain⟨a',k,k1,k2,h⟩:=var _ _ h;obtain⟨h1,h2,h4⟩:=txt _ _ h;exact⟨by rw[(uB hn s).2.2.2 (.inr hk),h1,lS h2,uW,amg ⟨k1,k2⟩];try rfl,by omega,h4⟩
end Go.Av
