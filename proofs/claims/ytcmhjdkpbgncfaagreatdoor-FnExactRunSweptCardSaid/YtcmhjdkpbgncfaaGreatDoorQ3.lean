/- FnExactRunSwept, a part. -/
import Derived.Test.YtcmhjdkpbgncfaaGreatDoorP1
import Derived.Test.YtcmhjdkpbgncfaaGreatDoorFw4
set_option maxRecDepth 100000
set_option maxHeartbeats 4000000
namespace Go.Av
abbrev aP:=S8×Int×Int×Unit
abbrev dk:=S8×S8×List (Int×Unit)×Unit
abbrev gv:=Int×Int×List (Int×Unit)×List (Int×Unit)×Unit
def de(a lo hi:Int):Bool:=cond (cl lo a) (cl a hi) false
theorem bB{a lo hi:Int}:de a lo hi=true↔lo<=a/\a<=hi:=by unfold de cl;by_cases h:lo<=a <;> simp[h]
theorem oP(a lo hi:Int):uI a lo hi=zR (de a lo hi):=rfl
theorem lv(a lo hi:Int):iZ a lo hi=zR (de a lo hi):=rfl
def bY(a:Int):Bool:=de a 0 4611686018427387904
theorem pJ(a:Int):EC a=zR (bY a):=rfl
theorem Et(a:Int):Pq a=zR (bY a):=rfl
def bh(a:Int):Bool:=de a 0 1000000000
theorem iQ(a:Int):LM a=zR (bh a):=rfl
theorem iM(a:Int):M8 a=zR (bh a):=rfl
def fL(x:UInt8):Bool:=cond (aE (x.toNat:Int) 48) false (!(aE 57 (x.toNat:Int)))
theorem dj{x:UInt8}:fL x=true↔48<=x.toNat/\x.toNat<=57:=by
 unfold fL aE;by_cases h:(x.toNat:Int)<48
 . simp[h];omega
 . by_cases h2:(57:Int)<x.toNat
   . simp[h,h2];omega
   . simp[h,h2];omega
def aH(s:S8):Bool:=cond (s.all fL) (aE 0 (ae s)) false
theorem gh(s:S8)(hs:s.length<=bQ):Ih s=zR (aH s):=by
 unfold Ih;have h:=aT (step:=yZ zp) s (fun i (_:Unit)=>(s,((i:Nat):Int),())) (fun _ x _=>bif fL x then Sum.inl ()else .inr (.inr (false,()))) (fun _=> .inl (s,(s.length:Int),())) (a0:=()) (fun i x a hx=>by
  have aV:=ah hx;show zp s (i:Int)=_;unfold zp fL;rw[aL hx,aD hx,fV hx,aU (by omega)];dsimp only[oT];cases aE (x.toNat:Int) 48 <;> cases aE 57 (x.toNat:Int) <;> rfl) (fun a=>by
  show zp s (s.length:Int)=_;unfold zp;rw[aA rfl];try rfl)
 rw[j4]at h;have h':YL s 0=_:=h;rw[h'];unfold aH;cases s.all fL <;> rfl
theorem jm(s:S8)(hs:s.length<=bQ):xa s=zR (aH s):=by
 unfold xa;have h:=aT (step:=fJ r9) s (fun i (_:Unit)=>(s,ae s,((i:Nat):Int),())) (fun _ x _=>bif fL x then Sum.inl ()else .inr (.inr (false,()))) (fun _=> .inl (s,ae s,(s.length:Int),())) (a0:=()) (fun i x a hx=>by
  have aV:=ah hx;show r9 s (ae s) (i:Int)=_;unfold r9 fL;rw[aL hx,aD hx,fV hx,aU (by omega)];dsimp only[oT];cases aE (x.toNat:Int) 48 <;> cases aE 57 (x.toNat:Int) <;> rfl) (fun a=>by
  show r9 s (ae s) (s.length:Int)=_;unfold r9;rw[aA rfl];try rfl)
 rw[j4]at h;have h':SY s (ae s) 0=_:=h;rw[h'];unfold aH;cases s with
 | nil=>rfl
 | cons x r=>
   have e1:aE 0 (ae (x::r))=true:=aR (by unfold ae;simp only[amw];omega);have e2:bF (x::r) []=false:=rfl;cases(x::r).all fL
   . rfl
   . dsimp only[oT,oF,oB,oL];rw[e1,e2];try rfl
def kN(x:UInt8):Bool:=cond (aE (x.toNat:Int) 48) (cond (aE (x.toNat:Int) 97) false (!(aE 122 (x.toNat:Int)))) (cond (aE 57 (x.toNat:Int)) (cond (aE (x.toNat:Int) 97) false (!(aE 122 (x.toNat:Int)))) true)
def bm(s:S8):Bool:=cond (s.all kN) (de (ae s) 1 6) false
theorem mA(s:S8)(hs:s.length<=bQ):Oq s=zR (bm s):=by
 unfold Oq;have h:=aT (step:=yZ tS) s (fun i (_:Unit)=>(s,((i:Nat):Int),())) (fun _ x _=>bif kN x then Sum.inl ()else .inr (.inr (false,()))) (fun _=> .inl (s,(s.length:Int),())) (a0:=()) (fun i x a hx=>by
  have aV:=ah hx;show tS s (i:Int)=_;unfold tS kN;rw[aL hx,aD hx,fV hx,aU (by omega)];dsimp only[oT];cases aE (x.toNat:Int) 48 <;> cases aE 57 (x.toNat:Int) <;> cases aE (x.toNat:Int) 97 <;> cases aE 122 (x.toNat:Int) <;> rfl) (fun a=>by
  show tS s (s.length:Int)=_;unfold tS;rw[aA rfl];try rfl)
 rw[j4]at h;have h':PU s 0=_:=h;rw[h'];unfold bm;cases s.all kN <;> rfl
theorem mF(s:S8)(hs:s.length<=bQ):HF s=zR (bm s):=by
 unfold HF;have h:=aT (step:=fJ sE) s (fun i (_:Unit)=>(s,ae s,((i:Nat):Int),())) (fun _ x _=>bif kN x then Sum.inl ()else .inr (.inr (false,()))) (fun _=> .inl (s,ae s,(s.length:Int),())) (a0:=()) (fun i x a hx=>by
  have aV:=ah hx;show sE s (ae s) (i:Int)=_;unfold sE kN;rw[aL hx,aD hx,fV hx,aU (by omega)];dsimp only[oT];cases aE (x.toNat:Int) 48 <;> cases aE 57 (x.toNat:Int) <;> cases aE (x.toNat:Int) 97 <;> cases aE 122 (x.toNat:Int) <;> rfl) (fun a=>by
  show sE s (ae s) (s.length:Int)=_;unfold sE;rw[aA rfl];try rfl)
 rw[j4]at h;have h':Rn s (ae s) 0=_:=h;rw[h'];unfold bm;cases s.all kN <;> rfl
def mH(h:aP):Bool:=cond (bm h.1) (cond (de h.2.1 1 9007199254740992) (bh h.2.2.1) false) false
theorem ab4(h:aP)(hs:h.1.length<=bQ):Vn h=zR (mH h):=by unfold Vn mH;simp only[mA _ hs,oP,iQ,oB];cases bm h.1 <;> cases de h.2.1 1 9007199254740992 <;> rfl
theorem abX(h:aP)(hs:h.1.length<=bQ):V2 h=zR (mH h):=by unfold V2 mH;simp only[mF _ hs,lv,iM,oB];cases bm h.1 <;> cases de h.2.1 1 9007199254740992 <;> rfl
def fC(xs:List aP)(i:Nat)(x:aP):Bool:=cond (mH x) (cond (aE 0 (i:Int)) (BX (gt ([],0,0,()) xs ((i:Int)-1)).1 x.1) true) false
def di(xs:List aP):Bool:=cond (allI (fC xs) 0 xs) (cl (ae xs) 4) false
theorem rS:∀(s t:S8),(Op.bytesLess s t||bF s t)= !(Op.bytesLess t s)
 | [],[]=>rfl
 | [],_::_=>rfl
 | _::_,[]=>rfl
 | a::s,b::t=>by
   have ih:=rS s t;have e:bF (a::s) (b::t)=(a == b&&bF s t):=rfl;show((decide (a<b)||(a == b&&Op.bytesLess s t))||bF (a::s) (b::t))= !(decide (b<a)||(b == a&&Op.bytesLess t s));rw[e];rcases aoV a.toNat b.toNat with h | h | h
   . have h1:a<b:=aoq.2 h;have h2:¬ b<a:=fun hh=>by have:=aoq.1 hh;omega
     have h3:(b == a)=false:=by rw[beq_eq_false_iff_ne];intro hh;subst hh;omega
     simp[h1,h2,h3]
   . have h1:a=b:=UInt8.toNat_inj.1 h;subst h1;have h2:¬ a<a:=fun hh=>by have:=aoq.1 hh;omega
     simpa[h2]using ih
   . have h1:¬ a<b:=fun hh=>by have:=aoq.1 hh;omega
     have h2:b<a:=aoq.2 h;have h3:(a == b)=false:=by rw[beq_eq_false_iff_ne];intro hh;subst hh;omega
     simp[h1,h2,h3]
theorem Lc(s t:S8):leS s t= !(BX t s):=rS s t
def tN(xs:List aP):Prop:=xs.length<=bQ/\∀ y∈xs,y.1.length<=bQ
theorem oA{α:Type}{xs:List α}{i:Nat}{x:α}(hx:xs[i]? = some x)(h:0<i):aX ((i:Int)-1) xs=true:=by
 have:=ah hx;have e:(i:Int)-1=((i-1:Nat):Int):=by omega
 rw[e];exact ig (by omega)
theorem Ee(xs:List aP)(hb:tN xs):Jj xs=zR (di xs):=by
 have bo:=bl;unfold Jj;have h:=aT (step:=ep th) xs (fun i (_:Unit)=>(xs,xs,ae xs,((i:Nat):Int),())) (fun i x _=>bif fC xs i x then Sum.inl ()else .inr (.inr (false,()))) (fun _=> .inl (xs,xs,ae xs,(xs.length:Int),())) (a0:=()) (fun i x a hx=>by
  have aV:=ah hx;have hl:=hb.1;show th xs xs (ae xs) (i:Int)=_;unfold th fC;rw[aL hx,aD hx,aM _ hx];dsimp only[oT];rw[ab4 x (hb.2 x (amo hx)),aU (by omega)];dsimp only[oB];cases mH x with
  | false=>rfl
  | true=>
    by_cases h0:0<i
    . rw[aR (show(0:Int)<i by omega),bG (by omega) (by omega),oA hx h0];dsimp only[oT,oF,oN];have e:gt d192 xs ((i:Int)-1)=gt ([],0,0,()) xs ((i:Int)-1):=rfl;rw[e];cases BX (gt ([],0,0,()) xs ((i:Int)-1)).1 x.1 <;> rfl
    . rw[aF (show ¬ (0:Int)<i by omega)];try rfl) (fun a=>by
  show th xs xs (ae xs) (xs.length:Int)=_;unfold th;rw[aA rfl];try rfl)
 rw[kj]at h;have h':QF xs xs (ae xs) 0=_:=h;rw[h'];unfold di;cases allI (fC xs) 0 xs <;> rfl
theorem DC(xs:List aP)(hb:tN xs):NO xs=zR (di xs):=by
 have bo:=bl;unfold NO;have h:=aT (step:=ep uq) xs (fun i (_:Unit)=>(xs,xs,ae xs,((i:Nat):Int),())) (fun i x _=>bif fC xs i x then Sum.inl ()else .inr (.inr (false,()))) (fun _=> .inl (xs,xs,ae xs,(xs.length:Int),())) (a0:=()) (fun i x a hx=>by
  have aV:=ah hx;have hl:=hb.1;show uq xs xs (ae xs) (i:Int)=_;unfold uq fC;rw[aL hx,aD hx,aM _ hx];dsimp only[oT];rw[abX x (hb.2 x (amo hx)),aU (by omega)];dsimp only[oB];cases mH x with
  | false=>rfl
  | true=>
    by_cases h0:0<i
    . rw[aR (show(0:Int)<i by omega),bG (by omega) (by omega),oA hx h0];dsimp only[oT,oF,oN];rw[Lc];have e:gt d192 xs ((i:Int)-1)=gt ([],0,0,()) xs ((i:Int)-1):=rfl;rw[e];cases BX (gt ([],0,0,()) xs ((i:Int)-1)).1 x.1 <;> rfl
    . rw[aF (show ¬ (0:Int)<i by omega)];try rfl) (fun a=>by
  show uq xs xs (ae xs) (xs.length:Int)=_;unfold uq;rw[aA rfl];try rfl)
 rw[kj]at h;have h':R8 xs xs (ae xs) 0=_:=h;rw[h'];unfold di;cases allI (fC xs) 0 xs <;> rfl
def gW(dbl:Bool)(x:UInt8):Int:=cond dbl (cond (aE 9 (2 * ((x.toNat:Int)-48))) (2 * ((x.toNat:Int)-48)-9) (2 * ((x.toNat:Int)-48))) ((x.toNat:Int)-48)
theorem yH(b:Bool){x:UInt8}(h:fL x=true):0<=gW b x/\gW b x<=9:=by
 obtain⟨h1,h2⟩:=dj.1 h;unfold gW aE;cases b
 . dsimp only[oF];omega
 . dsimp only[oT];by_cases h9:9<2 * ((x.toNat:Int)-48)
   . rw[amk h9];dsimp only[oT];omega
   . rw[amF h9];dsimp only[oF];omega
def EW(xs:S8)(a:Int×Bool):Int×Bool:=xs.foldl (fun a x=>(a.1+gW a.2 x,!a.2)) a
def T5(xs:S8)(a:Int×Bool):Int×Bool:=xs.foldl (fun a x=>((a.1+gW a.2 x) % 10,!a.2)) a
theorem LS:∀(xs:S8) (a:Int) (b:Bool),T5 xs (a % 10,b)=((EW xs (a,b)).1 % 10,(EW xs (a,b)).2)
 | [],a,b=>rfl
 | x::r,a,b=>by
   have e:(a % 10+gW b x) % 10=(a+gW b x) % 10:=by omega
   show T5 r ((a % 10+gW b x) % 10,!b)=((EW r (a+gW b x,!b)).1 % 10,(EW r (a+gW b x,!b)).2);rw[e];exact LS r _ _
def F2(s:S8):Int:=cond (aH s) ((10-(EW s.reverse (0,true)).1 % 10) % 10) (-1)
theorem jO{s:S8}(h:aH s=true):∀ x∈s,fL x=true:=by
 unfold aH at h;cases hs:s.all fL with
 | true=>exact fun x hx=>amB.1 hs x hx
 | false=>rw[hs]at h;simp at h
theorem EV{s:S8}{i:Nat}{x:UInt8}(h:s.reverse[i]? = some x):i<s.length/\s[s.length-1-i]? = some x:=by
 have hl:i<s.length:=by simpa using ah h
 refine⟨hl,?_⟩;rwa [List.getElem?_reverse hl]at h
theorem YA{x:UInt8}(h:fL x=true):bf .i64 (dC .i64 (x.toNat:Int)) 48=(x.toNat:Int)-48:=by obtain⟨h1,h2⟩:=dj.1 h;have e:dC .i64 (x.toNat:Int)=(x.toNat:Int):=IntWalk.i64_in _ (by omega);rw[e];exact bG (by omega) (by omega)
theorem aaw{x:UInt8}(h:fL x=true):dC .i64 (bf .u8 (x.toNat:Int) 48)=(x.toNat:Int)-48:=by obtain⟨h1,h2⟩:=dj.1 h;have e:bf .u8 (x.toNat:Int) 48=(x.toNat:Int)-48:=IntWalk.u8_in _ (by omega);rw[e];exact IntWalk.i64_in _ (by omega)
theorem KC{a b:Int}(h1 : -4611686018427387904<=a * b)(h2:a * b<=4611686018427387904):yj .i64 a b=a * b:=by unfold yj;rw[IntWalk.i64_in _ (by omega)]
theorem re{a:Int}(h:0<=a):eH a 10=a % 10:=by unfold eH;exact anB h
theorem adh(s:S8)(hs:s.length<=bQ):X1 s=zR (F2 s):=by
 have bo:=bl;unfold X1 F2;rw[gh s hs];dsimp only[oB];cases hd:aH s with
 | false=>rfl
 | true=>
 have gm:=jO hd
 have h:=aO (step:=ep wx) s.reverse (fun i (a:Int×Bool)=>(s,a.1,a.2,(s.length:Int)-1-((i:Nat):Int),())) (fun _ x a=>Sum.inl ((a.1+gW a.2 x) % 10,!a.2)) (fun a=> .inl (s,a.1,a.2,(-1:Int),()))
  (fun _ a=>0<=a.1/\a.1<10) (a0:=(0,true)) ⟨by decide,by decide⟩ (fun i x a hx ha=>by
    obtain⟨aV,lQ⟩:=EV hx;have hdx:=gm x (amo lQ);have Pf:=yH a.2 hdx;have mW:=dj.1 hdx;have e:(s.length:Int)-1-(i:Int)=((s.length-1-i:Nat):Int):=by omega
    have e':(s.length:Int)-1-((i+1:Nat):Int)=((s.length-1-i:Nat):Int)-1:=by omega
    obtain⟨a1,a2⟩:=a;show wx s a1 a2 ((s.length:Int)-1-(i:Int))=some (.inl (s,(a1+gW a2 x) % 10,!a2,(s.length:Int)-1-((i+1:Nat):Int),()));rw[e,e'];have hle:cl 0 ((s.length-1-i:Nat):Int)=true:=amk (by omega);have ha:0<=a1/\a1<10:=ha;unfold wx;rw[hle,aD lQ,fV lQ,YA hdx,bG (a:=((s.length-1-i:Nat):Int)) (b:=1) (by omega) (by omega)];have hb:(0<=gW a2 x/\gW a2 x<=9):=Pf;cases a2 with
    | false=>have hv:gW false x=(x.toNat:Int)-48:=rfl;dsimp only[oT,oF,oM];rw[bd (by omega) (by omega),re (by omega),hv]
    | true=>
      dsimp only[oT,oF,oM,oN];rw[KC (by omega) (by omega)];by_cases h9:9<2 * ((x.toNat:Int)-48)
      . have hv:gW true x=2 * ((x.toNat:Int)-48)-9:=by unfold gW;rw[aR h9];try rfl
        rw[aR h9];dsimp only[oT,oF,oM];rw[bG (by omega) (by omega),bd (by omega) (by omega),re (by omega),hv]
      . have hv:gW true x=2 * ((x.toNat:Int)-48):=by unfold gW;rw[aF h9];try rfl
        rw[aF h9];dsimp only[oT,oF,oM];rw[bd (by omega) (by omega),re (by omega),hv]) (fun i x a a' hx ha hf=>by
    simp only[amx]at hf;subst hf;show 0<=(a.1+gW a.2 x) % 10/\(a.1+gW a.2 x) % 10<10;omega) (fun a ha=>by
    have e:(s.length:Int)-1-((s.reverse.length:Nat):Int) = -1:=by simp;omega
    show wx s a.1 a.2 ((s.length:Int)-1-((s.reverse.length:Nat):Int))=_;rw[e];try rfl)
 rw[bS (fun x a=>((a.1+gW a.2 x) % 10,!a.2))]at h;have h':Rv s 0 true ((s.length:Int)-1-((0:Nat):Int))=some (.inl (s,(T5 s.reverse (0,true)).1,(T5 s.reverse (0,true)).2,(-1:Int),())):=h;have e0:(s.length:Int)-1-((0:Nat):Int)=bf .i64 (ae s) 1:=by rw[bG (by unfold ae;omega) (by unfold ae;omega)];unfold ae;omega
 have eT:(T5 s.reverse (0,true)).1=(EW s.reverse (0,true)).1 % 10:=by have:=LS s.reverse 0 true;rw[show(0:Int) % 10=0 from rfl]at this;rw[this]
 rw[e0]at h';rw[h',eT];dsimp only[oB,oL,oT,oF,oN];rw[bG (by omega) (by omega),re (by omega)];try rfl
theorem ac5(s:S8)(hs:s.length<=bQ):Vt s=zR (F2 s):=by
 have bo:=bl;unfold Vt F2;rw[jm s hs];dsimp only[oB];cases hd:aH s with
 | false=>rfl
 | true=>
 have gm:=jO hd
 have h:=aO (step:=ep xd) s.reverse (fun i (a:Int×Bool)=>(s,a.1,a.2,(s.length:Int)-1-((i:Nat):Int),())) (fun _ x a=>Sum.inl (a.1+gW a.2 x,!a.2)) (fun a=> .inl (s,a.1,a.2,(-1:Int),()))
  (fun i a=>0<=a.1/\a.1<=9 * i) (a0:=(0,true)) ⟨by decide,by decide⟩ (fun i x a hx ha=>by
    obtain⟨aV,lQ⟩:=EV hx;have hdx:=gm x (amo lQ);have Pf:=yH a.2 hdx;have mW:=dj.1 hdx;have e:(s.length:Int)-1-(i:Int)=((s.length-1-i:Nat):Int):=by omega
    have e':(s.length:Int)-1-((i+1:Nat):Int)=((s.length-1-i:Nat):Int)-1:=by omega
    obtain⟨a1,a2⟩:=a;show xd s a1 a2 ((s.length:Int)-1-(i:Int))=some (.inl (s,a1+gW a2 x,!a2,(s.length:Int)-1-((i+1:Nat):Int),()));rw[e,e'];have hle:cl 0 ((s.length-1-i:Nat):Int)=true:=amk (by omega);have ha:0<=a1/\a1<=9 * i:=ha;unfold xd;rw[hle,aD lQ,fV lQ,aaw hdx,bG (a:=((s.length-1-i:Nat):Int)) (b:=1) (by omega) (by omega)];have hb:(0<=gW a2 x/\gW a2 x<=9):=Pf;cases a2 with
    | false=>have hv:gW false x=(x.toNat:Int)-48:=rfl;dsimp only[oT,oF,oM];rw[bd (by omega) (by omega),hv]
    | true=>
      dsimp only[oT,oF,oM,oN];have em:yj .i64 ((x.toNat:Int)-48) 2=2 * ((x.toNat:Int)-48):=by rw[KC (by omega) (by omega)];omega
      rw[em];by_cases h9:9<2 * ((x.toNat:Int)-48)
      . have hv:gW true x=2 * ((x.toNat:Int)-48)-9:=by unfold gW;rw[aR h9];try rfl
        rw[aR h9];dsimp only[oT,oF,oM];rw[bG (by omega) (by omega),bd (by omega) (by omega),hv]
      . have hv:gW true x=2 * ((x.toNat:Int)-48):=by unfold gW;rw[aF h9];try rfl
        rw[aF h9];dsimp only[oT,oF,oM];rw[bd (by omega) (by omega),hv]) (fun i x a a' hx ha hf=>by
    have Pf:=yH a.2 (gm x (amo (EV hx).2));simp only[amx]at hf;subst hf;show 0<=a.1+gW a.2 x/\a.1+gW a.2 x<=9 * ((i+1:Nat):Int);omega) (fun a ha=>by
    have e:(s.length:Int)-1-((s.reverse.length:Nat):Int) = -1:=by simp;omega
    show xd s a.1 a.2 ((s.length:Int)-1-((s.reverse.length:Nat):Int))=_;rw[e];try rfl)
 rw[bS (fun x a=>(a.1+gW a.2 x,!a.2))]at h;have h':Rs s 0 true ((s.length:Int)-1-((0:Nat):Int))=some (.inl (s,(EW s.reverse (0,true)).1,(EW s.reverse (0,true)).2,(-1:Int),())):=h;have e0:(s.length:Int)-1-((0:Nat):Int)=bf .i64 (ae s) 1:=by rw[bG (by unfold ae;omega) (by unfold ae;omega)];unfold ae;omega
 have hS:∀(xs:S8) (a:Int×Bool),(∀ x∈xs,fL x=true)->0<=a.1->0<=(EW xs a).1:=by
  intro xs;induction xs with
  | nil=>intro a _ h;exact h
  | cons x r ih=>intro a hx h;have:=yH a.2 (hx x (amD ..));exact ih (a.1+gW a.2 x,!a.2) (fun y hy=>hx y (amy _ hy)) (by show 0<=a.1+gW a.2 x;omega)
 have h0:=hS s.reverse (0,true) (fun x hx=>gm x (List.mem_reverse.1 hx)) (by decide);rw[e0]at h';rw[h'];dsimp only[oB,oL,oT,oF,oN];rw[re h0,bG (by omega) (by omega),re (by omega)];try rfl
def ve(s:S8):Bool:=cond (aH s) (cond (cl 2 (ae s)) (aj (F2 (sub s 0 (ae s-1))) (fh s (ae s-1)-48)) false) false
theorem ZQ{s:S8}(hd:aH s=true)(h:2<=s.length):∃ x,fL x=true/\aX (ae s-1) s=true/\fh s (ae s-1)=(x.toNat:Int)/\eY 0 (ae s-1) s=true/\(sub s 0 (ae s-1)).length<=s.length:=by
 have e:ae s-1=((s.length-1:Nat):Int):=by unfold ae;omega
 obtain⟨x,hx⟩:∃ x,s[s.length-1]? = some x:=⟨s[s.length-1]'(by omega),by simp⟩;refine⟨x,jO hd x (amo hx),?_,?_,?_,?_⟩
 . rw[e];exact aD hx
 . rw[e];exact fV hx
 . rw[e];unfold eY jS cl;rw[amk (by decide),amk (by omega),amk (by omega)];try rfl
 . rw[e];unfold sub;simp
theorem SC(s:S8)(hs:s.length<=bQ):XE s=zR (ve s):=by
 have bo:=bl;unfold XE ve;rw[gh s hs];dsimp only[oB];cases hd:aH s with
 | false=>rfl
 | true=>
   by_cases h2:2<=s.length
   . obtain⟨x,h3,h4,h5,h6,h7⟩:=ZQ hd h2;have e1:cl 2 (ae s)=true:=amk (by unfold ae;omega);have e2:bf .i64 (ae s) 1=ae s-1:=bG (by unfold ae;omega) (by unfold ae;omega);rw[aF (show ¬ ae s<2 by unfold ae;omega),e1,e2];dsimp only[oT,oF,oN];rw[h6,h4,adh _ (amp h7 hs),h5,YA h3];try rfl
   . have e1:cl 2 (ae s)=false:=amF (by unfold ae;omega);rw[aR (show ae s<2 by unfold ae;omega),e1];try rfl
theorem TP(s:S8)(hs:s.length<=bQ):VJ s=zR (ve s):=by
 have bo:=bl;unfold VJ ve;have e2:bf .i64 (ae s) 1=ae s-1:=bG (by unfold ae;omega) (by unfold ae;omega);dsimp only;rw[jm s hs,e2];dsimp only[oB];by_cases h2:2<=s.length
 . have e1:cl 2 (ae s)=true:=amk (by unfold ae;omega);have e3:cl 1 (ae s-1)=true:=amk (by unfold ae;omega);rw[e1,e3];cases hd:aH s with
   | false=>rfl
   | true=>obtain⟨x,h3,h4,h5,h6,h7⟩:=ZQ hd h2;dsimp only[oT,oF,oN];rw[h6,h4,ac5 _ (amp h7 hs),h5,aaw h3];try rfl
 . have e1:cl 2 (ae s)=false:=amF (by unfold ae;omega);have e3:cl 1 (ae s-1)=false:=amF (by unfold ae;omega);rw[e1,e3];cases aH s <;> rfl
def ft(s:S8):Bool:=cond (cl (ae s) 19) (ve s) false
theorem Bq(s:S8)(hs:s.length<=bQ):wZ s=zR (ft s):=by unfold wZ ft;rw[SC s hs];cases cl (ae s) 19 <;> rfl
theorem AM(s:S8)(hs:s.length<=bQ):xg s=zR (ft s):=by unfold xg ft;rw[TP s hs];cases cl (ae s) 19 <;> rfl
def ee(a:Int):Int:=if a<0 then 0 else if 4611686018427387904<a then 4611686018427387904 else a
theorem iB(a:Int):0<=ee a/\ee a<=4611686018427387904:=by
 unfold ee;split
 . omega
 . split <;> omega
def fk(a b:Int):Int:=if 4611686018427387904-ee b<ee a then 4611686018427387904 else ee a+ee b
theorem yy(a b:Int):0<=fk a b/\fk a b<=4611686018427387904:=by have:=iB a;have:=iB b;unfold fk;split <;> omega
theorem LR(a:Int):P8 a 0 4611686018427387904=zR (ee a):=by
 unfold P8 ee;by_cases h:a<0
 . rw[aR h,if_pos h];try rfl
 . by_cases h2:4611686018427387904<a
   . rw[aF h,if_neg h,aR h2,if_pos h2];try rfl
   . rw[aF h,if_neg h,aF h2,if_neg h2];try rfl
theorem zD{a:Int}(h:0<=a/\a<=4611686018427387904):bY a=true:=bB.2 h
theorem xV(a b:Int):An a b=zR (fk a b):=by
 unfold An aci fk;have h1:=iB a;have h2:=iB b;rw[LR,LR];dsimp only[oB];rw[pJ,pJ,zD h1,zD h2,bG (by omega) (by omega)];dsimp only[oB,oN,oF];by_cases h:4611686018427387904-ee b<ee a
 . rw[aR h,if_pos h];try rfl
 . rw[aF h,if_neg h,bd (by omega) (by omega)];try rfl
theorem zz(a b:Int):B6 a b=zR (fk a b):=by
 have e:∀ x:Int,Jd 0 (UT x 4611686018427387904)=ee x:=fun x=>by unfold Jd UT ee;split <;> split <;> (try split) <;> omega
 have h1:=iB a;have h2:=iB b;unfold B6 fk;dsimp only;rw[e,e,bG (by omega) (by omega)];by_cases h:4611686018427387904-ee b<ee a
 . rw[aR h,if_pos h];try rfl
 . rw[aF h,if_neg h,bd (by omega) (by omega)];try rfl
def uS(xs:List aP):Int:=xs.foldl (fun a h=>fk a h.2.1) 0
theorem HD(xs:List aP)(hs:xs.length<=bQ):Q3 xs=zR (uS xs):=by
 unfold Q3;have h:=aT (step:=ep tV) xs (fun i (a:Int)=>(a,xs,ae xs,((i:Nat):Int),())) (fun _ x a=>Sum.inl (fk a x.2.1)) (fun a=> .inl (a,xs,ae xs,(xs.length:Int),())) (a0:=0) (fun i x a hx=>by
  have aV:=ah hx;show tV a xs (ae xs) (i:Int)=_;unfold tV;rw[aL hx,aD hx,aM _ hx,aU (by omega),xV];try rfl) (fun a=>by
  show tV a xs (ae xs) (xs.length:Int)=_;unfold tV;rw[aA rfl];try rfl)
 rw[bS (fun(x:aP) a=>fk a x.2.1)]at h;have h':QK 0 xs (ae xs) 0=_:=h;rw[h'];try rfl
theorem FE(xs:List aP)(hs:xs.length<=bQ):TY xs=zR (uS xs):=by
 unfold TY;have h:=aT (step:=ep so) xs (fun i (a:Int)=>(a,xs,ae xs,((i:Nat):Int),())) (fun _ x a=>Sum.inl (fk a x.2.1)) (fun a=> .inl (a,xs,ae xs,(xs.length:Int),())) (a0:=0) (fun i x a hx=>by
  have aV:=ah hx;show so a xs (ae xs) (i:Int)=_;unfold so;rw[aL hx,aD hx,aM _ hx,aU (by omega),zz];try rfl) (fun a=>by
  show so a xs (ae xs) (xs.length:Int)=_;unfold so;rw[aA rfl];try rfl)
 rw[bS (fun(x:aP) a=>fk a x.2.1)]at h;have h':TR 0 xs (ae xs) 0=_:=h;rw[h'];try rfl
def gU(r:gv):Bool:=cond (de r.1 1 1000) (cond (de (ae r.2.2.1) 1 8) (cond (aj (ae r.2.2.2.1) (ae r.2.2.1)) (cond (bh r.2.1) (r.2.2.1.all (fun x=>bY x.1)&&r.2.2.2.1.all (fun x=>bY x.1)) false) false) false) false
def kd(r:gv):Prop:=r.2.2.1.length<=1048576/\r.2.2.2.1.length<=1048576
theorem bt{a b:Int}:aj a b=true↔a=b:=by simp[aj]
theorem Dz(r:gv)(hb:kd r):HR r=zR (gU r):=by
 have bo:=bl;obtain⟨yQ,l6⟩:=hb;unfold HR gU;dsimp only;rw[oP,oP,iQ];dsimp only[oB];cases de r.1 1 1000 with
 | false=>rfl
 | true=>
 cases de (ae r.2.2.1) 1 8 with
 | false=>rfl
 | true=>
 cases he:aj (ae r.2.2.2.1) (ae r.2.2.1)with
 | false=>rfl
 | true=>
 cases bh r.2.1 with
 | false=>rfl
 | true=>
 have hlen:r.2.2.2.1.length=r.2.2.1.length:=by have:=bt.1 he;unfold ae at this;omega
 dsimp only[oT,oF,oN];have h:=aT (step:=fJ sC) (r.2.2.1.zip r.2.2.2.1) (fun i (_:Unit)=>(ae r.2.2.1,((i:Nat):Int),r,())) (fun _ x _=>bif bY x.1.1&&bY x.2.1 then Sum.inl ()else .inr (.inr (false,()))) (fun _=> .inl (ae r.2.2.1,(r.2.2.1.length:Int),r,())) (a0:=()) (fun i x a hx=>by
  have lQ:=List.getElem?_zip_eq_some.1 hx;have aV:=ah lQ.1;show sC (ae r.2.2.1) (i:Int) r=_;unfold sC;rw[aL lQ.1,aD lQ.1,aD lQ.2,aM _ lQ.1,aM _ lQ.2,pJ,pJ,aU (by omega)];dsimp only[oT,oB];cases bY x.1.1 <;> cases bY x.2.1 <;> rfl) (fun a=>by
  have e:(r.2.2.1.zip r.2.2.2.1).length=r.2.2.1.length:=by rw[List.length_zip,hlen,Nat.min_self]
  rw[e];show sC (ae r.2.2.1) (r.2.2.1.length:Int) r=_;unfold sC;rw[aA rfl];try rfl)
 rw[j4 (fun(x:(Int×Unit)×(Int×Unit))=>bY x.1.1&&bY x.2.1)]at h;have h':QU (ae r.2.2.1) 0 r=_:=h;rw[h'];have hz:∀(a b:List (Int×Unit)),b.length=a.length->(a.zip b).all (fun x=>bY x.1.1&&bY x.2.1)=(a.all (fun x=>bY x.1)&&b.all (fun x=>bY x.1)):=by
  intro a;induction a with
  | nil=>intro b hb;cases b with | nil=>rfl | cons _ _=>simp at hb
  | cons x a ih=>
    intro b hb;cases b with
    | nil=>simp at hb
    | cons y b=>simp only[List.zip_cons_cons,anc];rw[ih b (by simpa using hb)];cases bY x.1 <;> cases bY y.1 <;> simp
 rw[hz _ _ hlen];cases r.2.2.1.all (fun x=>bY x.1)&&r.2.2.2.1.all (fun x=>bY x.1) <;> rfl
theorem Tk(a b:List (Int×Unit))(ha:a.length<=1048576)(hb:b.length<=1048576):W4 [(a,()),(b,())]=zR (a++b):=by
 have bo:=bl;unfold W4;have hlen:((a.length+b.length:Nat):Int)=(a.length:Int)+b.length:=by omega
 have h:JB [(a,()),(b,())] 0 [(a,()),(b,())] 2 0=some (.inl ([(a,()),(b,())],(a.length:Int)+b.length,[(a,()),(b,())],2,2,())):=by
  refine ez _ (x':=([(a,()),(b,())],(a.length:Int),[(a,()),(b,())],2,1,())) ?_ (ez _ (x':=([(a,()),(b,())],(a.length:Int)+b.length,[(a,()),(b,())],2,2,())) ?_ (dK _ ?_))
  . show wO [(a,()),(b,())] 0 [(a,()),(b,())] 2 0=_;unfold wO;have e:ak .i64 0 (ae (gt d52 [(a,()),(b,())] 0).1)=(a.length:Int):=by
     show ak .i64 0 (ae a)=_;rw[bd (by unfold ae;omega) (by unfold ae;omega)];unfold ae;omega
    dsimp only;rw[e,aF (a:=(a.length:Int)) (b:=0) (by omega)];try rfl
  . show wO [(a,()),(b,())] (a.length:Int) [(a,()),(b,())] 2 1=_;unfold wO;have e:ak .i64 (a.length:Int) (ae (gt d52 [(a,()),(b,())] 1).1)=(a.length:Int)+b.length:=by
     show ak .i64 (a.length:Int) (ae b)=_;rw[bd (by unfold ae;omega) (by unfold ae;omega)];unfold ae;omega
    dsimp only;rw[e,aF (a:=(a.length:Int)+b.length) (b:=0) (by omega)];try rfl
  . rfl
 have h1:JB [(a,()),(b,())] 0 [(a,()),(b,())] (ae [(a,()),(b,())]) 0=_:=h;have hg:XO ((a.length:Int)+b.length)=zR []:=by
  unfold XO;dsimp only;rw[aF (by omega),bG (a:=0) (b:=0) (by decide) (by decide),bG (by omega) (by omega)];by_cases h0:(0:Int)<(a.length:Int)+b.length-(0-0)
  . have e2:mzB 8 ((a.length:Int)+b.length-(0-0))=true:=by
     unfold mzB cl;rw[amk (by omega),amk (by rw[bo];omega)];try rfl
    have e3:eY 0 0 (xh d3 ((a.length:Int)+b.length-(0-0)))=true:=by unfold eY jS cl;rw[amk (by decide),amk (by omega)];try rfl
    rw[aR h0,e2,e3];try rfl
  . rw[aF h0];try rfl
 have h2:Jl [] [(a,()),(b,())] 2 0=some (.inl (a++b,[(a,()),(b,())],2,2,())):=by
  refine ez _ (x':=(a,[(a,()),(b,())],2,1,())) ?_ (ez _ (x':=(a++b,[(a,()),(b,())],2,2,())) ?_ (dK _ ?_))
  . show wm [] [(a,()),(b,())] 2 0=_;unfold wm;have e:bk 8 ([]:List (Int×Unit)) (gt d52 [(a,()),(b,())] 0).1=true:=amq (by show(0+a.length) * 8<=bQ;omega);rw[e];try rfl
  . show wm a [(a,()),(b,())] 2 1=_;unfold wm;have e:bk 8 a (gt d52 [(a,()),(b,())] 1).1=true:=amq (by show(a.length+b.length) * 8<=bQ;omega);rw[e];try rfl
  . rfl
 have O9:Jl [] [(a,()),(b,())] (ae [(a,()),(b,())]) 0=_:=h2;rw[h1];dsimp only[oB,oL];rw[hg];dsimp only[oB,oL];rw[O9];try rfl
theorem zq(r:gv)(hb:kd r):E3 r=zR (gU r):=by
 have bo:=bl;obtain⟨yQ,l6⟩:=hb;unfold E3;rw[Tk _ _ yQ l6];dsimp only[oB];have h:=aT (step:=pY tz) (r.2.2.1++r.2.2.2.1) (fun i (_:Unit)=>(ae r.2.2.1,r.2.2.1++r.2.2.2.1,ae (r.2.2.1++r.2.2.2.1),((i:Nat):Int),r,())) (fun _ x _=>bif bY x.1 then Sum.inl ()else .inr (.inr (false,()))) (fun _=> .inl (ae r.2.2.1,r.2.2.1++r.2.2.2.1,ae (r.2.2.1++r.2.2.2.1),((r.2.2.1++r.2.2.2.1).length:Int),r,())) (a0:=()) (fun i x a hx=>by
  have aV:=ah hx;rw[amj]at aV;show tz (ae r.2.2.1) (r.2.2.1++r.2.2.2.1) (ae (r.2.2.1++r.2.2.2.1)) (i:Int) r=_;unfold tz;rw[aL hx,aD hx,aM _ hx,Et,aU (by omega)];dsimp only[oT,oB];cases bY x.1 <;> rfl) (fun a=>by
  show tz (ae r.2.2.1) (r.2.2.1++r.2.2.2.1) (ae (r.2.2.1++r.2.2.2.1)) ((r.2.2.1++r.2.2.2.1).length:Int) r=_;unfold tz;rw[aA rfl];try rfl)
 rw[j4 (fun(x:Int×Unit)=>bY x.1)]at h;have h':RI (ae r.2.2.1) (r.2.2.1++r.2.2.2.1) (ae (r.2.2.1++r.2.2.2.1)) 0 r=_:=h;rw[h',List.all_append];unfold gU;cases r.2.2.1.all (fun x=>bY x.1)&&r.2.2.2.1.all (fun x=>bY x.1)with
 | false=>cases de r.1 1 1000 <;> cases de (ae r.2.2.1) 1 8 <;> cases aj (ae r.2.2.2.1) (ae r.2.2.1) <;> cases bh r.2.1 <;> rfl
 | true=>dsimp only[oT,oB,oL];rw[lv,lv,iM];dsimp only[oB];cases de r.1 1 1000 <;> cases de (ae r.2.2.1) 1 8 <;> cases aj (ae r.2.2.2.1) (ae r.2.2.1) <;> cases bh r.2.1 <;> rfl
theorem mG{r:gv}(h:gU r=true):(1<=r.1/\r.1<=1000)/\(1<=r.2.2.1.length/\r.2.2.1.length<=8)/\r.2.2.2.1.length=r.2.2.1.length/\(0<=r.2.1/\r.2.1<=1000000000):=by
 unfold gU at h;cases h1:de r.1 1 1000 with
 | false=>rw[h1]at h;simp at h
 | true=>
 cases h2:de (ae r.2.2.1) 1 8 with
 | false=>rw[h1,h2]at h;simp at h
 | true=>
 cases h3:aj (ae r.2.2.2.1) (ae r.2.2.1)with
 | false=>rw[h1,h2,h3]at h;simp at h
 | true=>
 cases h4:bh r.2.1 with
 | false=>rw[h1,h2,h3,h4]at h;simp at h
 | true=>
 have a:=bB.1 h1;have b:=bB.1 h2;have c:=bt.1 h3;have d:=bB.1 h4;unfold ae at b c;exact⟨a,⟨by omega,by omega⟩,by omega,d⟩
def ll(s:dk):Bool:=cond (cond (aH s.1) (aj (ae s.1) 6) false) (cond (cond (aH s.2.1) (aj (ae s.2.1) 4) false) (de (ae s.2.2.1) 1 200) false) false
def Se(s:dk):Prop:=s.1.length<=bQ/\s.2.1.length<=bQ
theorem abO(s:dk)(hb:Se s):Xw s=zR (ll s):=by unfold Xw ll;rw[gh _ hb.1,gh _ hb.2];dsimp only[oB];rw[oP];cases cond (aH s.1) (aj (ae s.1) 6) false <;> cases cond (aH s.2.1) (aj (ae s.2.1) 4) false <;> rfl
theorem adz(s:dk)(hb:Se s):VC s=zR (ll s):=by unfold VC yi ll;rw[jm _ hb.1,jm _ hb.2];dsimp only[oB];rw[lv];cases cond (aH s.1) (aj (ae s.1) 6) false <;> cases cond (aH s.2.1) (aj (ae s.2.1) 4) false <;> rfl
def jc(a b:dk):Bool:=cond (bF a.1 b.1) (bF a.2.1 b.2.1) false
def dq(xs:List dk)(i:Nat)(x:dk):Bool:=cond (ll x) ((xs.take i).all (fun y=> !jc y x)) false
def eG(xs:List dk):Bool:=cond (allI (dq xs) 0 xs) (cl (ae xs) 6) false
def Jh(xs:List dk):Prop:=xs.length<=1048576/\∀ y∈xs,Se y
theorem zM{α:Type}(xs:List α)(i:Nat):sub xs 0 (i:Int)=xs.take i:=by unfold sub;simp
theorem kC{α:Type}{xs:List α}{i:Nat}(h:i<=xs.length):eY 0 (i:Int) xs=true:=by unfold eY jS cl;rw[amk (by decide),amk (by omega),amk (by omega)];try rfl
theorem Kz(xs:List dk)(hb:Jh xs):g99 xs=zR (eG xs):=by
 have bo:=bl;have yQ:=hb.1;unfold g99;have inner:∀(i:Nat) (x:dk),i<=xs.length->YX xs xs (ae xs) (i:Int) (xs.take i) (ae (xs.take i)) 0 x=some (bif (xs.take i).all (fun y=> !jc y x)then .inl (xs,xs,ae xs,(i:Int),xs.take i,ae (xs.take i),((xs.take i).length:Int),x,())else .inr (false,())):=fun i x hi=>by
  have iy:(xs.take i).length<=xs.length:=by rw[am9];exact Nat.min_le_right _ _
  have h:=aT (step:=X4 Am) (xs.take i) (fun j (_:Unit)=>(xs,xs,ae xs,(i:Int),xs.take i,ae (xs.take i),((j:Nat):Int),x,())) (fun _ y _=>bif !jc y x then Sum.inl ()else .inr (.inr (false,()))) (fun _=> .inl (xs,xs,ae xs,(i:Int),xs.take i,ae (xs.take i),((xs.take i).length:Int),x,())) (a0:=()) (fun j y a hy=>by
   have aV:=ah hy;show Am xs xs (ae xs) (i:Int) (xs.take i) (ae (xs.take i)) (j:Int) x=_;unfold Am jc;rw[aL hy,aD hy,aM _ hy,aU (by omega)];dsimp only[oT];cases cond (bF y.1 x.1) (bF y.2.1 x.2.1) false <;> rfl) (fun a=>by
   show Am xs xs (ae xs) (i:Int) (xs.take i) (ae (xs.take i)) ((xs.take i).length:Int) x=_;unfold Am;rw[aA rfl];try rfl)
  rw[j4 (fun y=> !jc y x)]at h;exact h
 have h:=aT (step:=ep Bg) xs (fun i (_:Unit)=>(xs,xs,ae xs,((i:Nat):Int),())) (fun i x _=>bif dq xs i x then Sum.inl ()else .inr (.inr (false,()))) (fun _=> .inl (xs,xs,ae xs,(xs.length:Int),())) (a0:=()) (fun i x a hx=>by
  have aV:=ah hx;show Bg xs xs (ae xs) (i:Int)=_;unfold Bg dq;rw[aL hx,aD hx,aM _ hx];dsimp only[oT];rw[abO x (hb.2 x (amo hx)),kC (aoB aV),zM];dsimp only[oT,oB];rw[inner i x (aoB aV)];cases ll x with
  | false=>rfl
  | true=>
    cases(xs.take i).all (fun y=> !jc y x)with
    | false=>rfl
    | true=>
      dsimp only[oT,oF,oN,oB,oL];rw[aU (by omega)];try rfl) (fun a=>by
  show Bg xs xs (ae xs) (xs.length:Int)=_;unfold Bg;rw[aA rfl];try rfl)
 rw[kj]at h;have h':aak xs xs (ae xs) 0=_:=h;rw[h'];unfold eG;cases allI (dq xs) 0 xs <;> rfl
def dM{α:Type}(p:α->Bool):Nat->List α->Int
 | _,[]=> -1
 | i,x::r=>bif p x then (i:Int)else dM p (i+1) r
theorem ij{α Y:Type}(p:α->Bool)(y:Int->Y)(z:Y)(out:Y->Int)(hy:∀ n,out (y n)=n)(hz:out z = -1):∀(xs:List α) (i:Nat),out (kO (fun i x _=>bif p x then Sum.inr (y (i:Int))else .inl ()) (fun _=>z) i xs ())=dM p i xs
 | [],_=>hz
 | x::r,i=>by
   rw[kO,dM];cases hp:p x with
   | true=>exact hy _
   | false=>exact ij p y z out hy hz r (i+1)
theorem vc{α:Type}(p:α->Bool):∀(xs:List α) (i:Nat),dM p i xs = -1∨((i:Int)<=dM p i xs/\dM p i xs<i+xs.length)
 | [],_=> .inl rfl
 | x::r,i=>by
   rw[dM];cases p x with
   | true=>right;simp only[oT,amw];omega
   | false=>
     rcases vc p r (i+1)with h | h
     . exact .inl h
     . right;simp only[oF,amw];omega
theorem Gb{α:Type}(p:α->Bool):∀ {xs:List α} {i:Nat} {x:α} (k:Nat),xs[i]? = some x->p x=true->(dM p k xs=((k+i:Nat):Int)↔(xs.take i).all (fun y=> !p y)=true)
 | [],i,x,k,h,_=>by simp at h
 | y::r,0,x,k,h,hp=>by simp only[amn,amh]at h;subst h;rw[dM,hp];simp
 | y::r,i+1,x,k,h,hp=>by
   have ih:=Gb p (xs:=r) (i:=i) (x:=x) (k+1) (by simpa using h) hp;rw[dM,ao8,anc];cases hy:p y with
   | true=>simp only[oT,oN,Bool.false_and,am1,iff_false];omega
   | false=>simp only[oF,oM,aoh];rw[<- ih,show k+1+i=k+(i+1)by omega]
theorem Gq(xs:List dk)(a b:S8)(hs:xs.length<=1048576):PR xs a b=zR (dM (fun y=>cond (bF y.1 a) (bF y.2.1 b) false) 0 xs):=by
 have bo:=bl;unfold PR adN;have h:=aT (step:=ep sy) xs (fun i (_:Unit)=>(xs,((a,()),(b,()),()),ae xs,((i:Nat):Int),())) (fun i y _=>bif cond (bF y.1 a) (bF y.2.1 b) false then Sum.inr (.inr ((i:Int),()))else Sum.inl ()) (fun _=> .inl (xs,((a,()),(b,()),()),ae xs,(xs.length:Int),())) (a0:=()) (fun i y u hy=>by
  have aV:=ah hy;show sy xs ((a,()),(b,()),()) (ae xs) (i:Int)=_;unfold sy aco;rw[aL hy,aD hy,aM _ hy,aU (by omega)];dsimp only[oT,oB];cases cond (bF y.1 a) (bF y.2.1 b) false <;> rfl) (fun u=>by
  show sy xs ((a,()),(b,()),()) (ae xs) (xs.length:Int)=_;unfold sy;rw[aA rfl];try rfl)
 have h':Qq xs ((a,()),(b,()),()) (ae xs) 0=_:=h;rw[h'];have hf:=ij (Y:=Sum ((List dk)×(R9×R9×Unit)×Int×Int×Unit) (Int×Unit)) (fun(y:dk)=>cond (bF y.1 a) (bF y.2.1 b) false) (fun n=> .inr (n,())) (.inl (xs,((a,()),(b,()),()),ae xs,(xs.length:Int),())) (fun y=>match y with | .inl _=> -1 | .inr z=>z.1) (fun _=>rfl) rfl xs 0;rw[<- hf];dsimp only[oB];cases kO _ _ 0 xs () <;> rfl
theorem KM(xs:List dk)(hb:Jh xs):S2 xs=zR (eG xs):=by
 have bo:=bl;have yQ:=hb.1;unfold S2;have h:=aT (step:=ep tM) xs (fun i (_:Unit)=>(xs,xs,ae xs,((i:Nat):Int),())) (fun i x _=>bif dq xs i x then Sum.inl ()else .inr (.inr (false,()))) (fun _=> .inl (xs,xs,ae xs,(xs.length:Int),())) (a0:=()) (fun i x a hx=>by
  have aV:=ah hx;show tM xs xs (ae xs) (i:Int)=_;unfold tM dq;rw[aL hx,aD hx,aM _ hx];dsimp only[oT];rw[adz x (hb.2 x (amo hx))];dsimp only[oT,oB];rw[Gq xs _ _ yQ,aU (by omega)];have hp:cond (bF x.1 x.1) (bF x.2.1 x.2.1) false=true:=by rw[gF,gF];try rfl
  have hk:=Gb (fun(y:dk)=>cond (bF y.1 x.1) (bF y.2.1 x.2.1) false) 0 hx hp;rw[amt,<- bt]at hk;have Fg:aj (dM (fun(y:dk)=>cond (bF y.1 x.1) (bF y.2.1 x.2.1) false) 0 xs) (i:Int)=(xs.take i).all (fun y=> !jc y x):=by rw[Bool.eq_iff_iff];exact hk
  cases ll x with
  | false=>rfl
  | true=>
    dsimp only[oT,oF,oN,oB];rw[Fg];cases(xs.take i).all (fun y=> !jc y x) <;> rfl) (fun a=>by
  show tM xs xs (ae xs) (xs.length:Int)=_;unfold tM;rw[aA rfl];try rfl)
 rw[kj]at h;have h':QN xs xs (ae xs) 0=_:=h;rw[h'];unfold eG;cases allI (dq xs) 0 xs <;> rfl
abbrev ax:=S8×Int×Int×Int×Int×List aP×Int×Int×List (Int×Unit)×List (Int×Unit)×List dk×Unit
def dt(a:ax):gv:=(a.2.2.2.2.2.2.1,a.2.2.2.2.2.2.2.1,a.2.2.2.2.2.2.2.2.1,a.2.2.2.2.2.2.2.2.2.1,())
def bK(a:ax):Prop:=a.1.length<=1048576/\(a.2.2.2.2.2.1.length<=1048576/\∀ y∈a.2.2.2.2.2.1,y.1.length<=1048576)/\kd (dt a)/\a.2.2.2.2.2.2.2.2.2.2.1.length<=1048576/\∀ y∈a.2.2.2.2.2.2.2.2.2.2.1,y.1.length<=1048576/\y.2.1.length<=1048576/\y.2.2.1.length<=1048576
theorem cg{n:Nat}(h:n<=1048576):n<=bQ:=amp h (by decide)
theorem bK.hs{a:ax}(h:bK a):tN a.2.2.2.2.2.1:=⟨cg h.2.1.1,fun y hy=>cg (h.2.1.2 y hy)⟩
theorem bK.ss{a:ax}(h:bK a):Jh a.2.2.2.2.2.2.2.2.2.2.1:=⟨h.2.2.2.1,fun y hy=>⟨cg (h.2.2.2.2 y hy).1,cg (h.2.2.2.2 y hy).2.1⟩⟩
def bp(a:ax):Bool:=cond (ft a.1) (cond (de a.2.1 0 9007199254740992) (cond (de a.2.2.2.1 0 1000) (cond (de a.2.2.2.2.1 0 9007199254740992) (cond (bY a.2.2.1) (cond (di a.2.2.2.2.2.1) (cond (gU (dt a)) (cond (eG a.2.2.2.2.2.2.2.2.2.2.1) (cl (fk a.2.2.1 (uS a.2.2.2.2.2.1)) a.2.1) false) false) false) false) false) false) false) false
theorem mL(a:ax)(hb:bK a):UX a=zR (bp a):=by
 have h1:=Bq a.1 (cg hb.1);have h2:=Ee _ hb.hs;have h3:HR (a.2.2.2.2.2.2.1,a.2.2.2.2.2.2.2.1,a.2.2.2.2.2.2.2.2.1,a.2.2.2.2.2.2.2.2.2.1,())=_:=Dz (dt a) hb.2.2.1;have h4:=Kz _ hb.ss;have h5:=HD _ hb.hs.1;unfold UX bp;rw[h1,h2,h3,h4,h5,oP,oP,oP,pJ];dsimp only[oB];rw[xV];dsimp only[oB];cases ft a.1 <;> first | rfl | skip
 cases de a.2.1 0 9007199254740992 <;> first | rfl | skip
 cases de a.2.2.2.1 0 1000 <;> first | rfl | skip
 cases de a.2.2.2.2.1 0 9007199254740992 <;> first | rfl | skip
 cases bY a.2.2.1 <;> first | rfl | skip
 cases di a.2.2.2.2.2.1 <;> first | rfl | skip
 cases gU (dt a) <;> first | rfl | skip
 cases eG a.2.2.2.2.2.2.2.2.2.2.1 <;> rfl
theorem nD(a:ax)(hb:bK a):IZ a=zR (bp a):=by
 have h1:=AM a.1 (cg hb.1);have h2:=DC _ hb.hs;have h3:E3 (a.2.2.2.2.2.2.1,a.2.2.2.2.2.2.2.1,a.2.2.2.2.2.2.2.2.1,a.2.2.2.2.2.2.2.2.2.1,())=_:=zq (dt a) hb.2.2.1;have h4:=KM _ hb.ss;have h5:=FE _ hb.hs.1;unfold IZ bp;rw[h1,h2,h3,h4,h5,lv,lv,lv,Et];dsimp only[oB];rw[zz];dsimp only[oB];cases ft a.1 <;> first | rfl | skip
 cases de a.2.1 0 9007199254740992 <;> first | rfl | skip
 cases de a.2.2.2.1 0 1000 <;> first | rfl | skip
 cases de a.2.2.2.2.1 0 9007199254740992 <;> first | rfl | skip
 cases bY a.2.2.1 <;> first | rfl | skip
 cases di a.2.2.2.2.2.1 <;> first | rfl | skip
 cases gU (dt a) <;> first | rfl | skip
 cases eG a.2.2.2.2.2.2.2.2.2.2.1 <;> rfl
theorem jl{α:Type}{b:Nat}{xs:List α}(h:xs.length * b<=bQ):bk b ([]:List α) xs=true:=amq (by simpa using h)
theorem yT(r:gv)(hb:kd r):EO r=some ((),(r,())):=by have bo:=bl;obtain⟨h1,h2⟩:=hb;unfold EO;rw[jl (by omega),jl (by omega)];try rfl
theorem zt(r:gv)(hb:kd r):E4 r=some ((),(r,())):=by have bo:=bl;obtain⟨h1,h2⟩:=hb;unfold E4 MI;rw[jl (by omega),jl (by omega)];try rfl
theorem wj(xs:List dk)(hs:xs.length<=1048576)(hb:∀ y∈xs,y.2.2.1.length<=1048576):g98 xs=zR xs:=by
 have bo:=bl;unfold g98;have h:=aO (step:=ep zY) xs (fun i (a:List dk)=>(a,xs,ae xs,((i:Nat):Int),())) (fun _ x a=>Sum.inl (a++[x])) (fun a=> .inl (a,xs,ae xs,(xs.length:Int),())) (fun i a=>a.length=i) (a0:=[]) rfl (fun i x a hx ha=>by
  have aV:=ah hx;have hm:=hb x (amo hx);show zY a xs (ae xs) (i:Int)=_;unfold zY;have e:∀ y:dk,bk 56 a [y]=true:=fun y=>amq (by simp;omega)
  rw[aL hx,aD hx,aM _ hx];dsimp only[oT];rw[jl (by omega),e,aU (by omega)];try rfl) (fun i x a a' hx ha hf=>by
  simp only[amx]at hf;rw[<- hf,amj,ha];try rfl) (fun a ha=>by
  show zY a xs (ae xs) (xs.length:Int)=_;unfold zY;rw[aA rfl];try rfl)
 rw[mh]at h;have h':ZX [] xs (ae xs) 0=_:=h;rw[h'];try rfl
theorem CF(xs:List dk)(hs:xs.length<=1048576)(hb:∀ y∈xs,y.2.2.1.length<=1048576):No xs=zR xs:=by
 have bo:=bl;unfold No;have h:=aO (step:=ep um) xs (fun i (a:List dk)=>(a,xs,ae xs,((i:Nat):Int),())) (fun _ x a=>Sum.inl (a++[x])) (fun a=> .inl (a,xs,ae xs,(xs.length:Int),())) (fun i a=>a.length=i) (a0:=[]) rfl (fun i x a hx ha=>by
  have aV:=ah hx;have hm:=hb x (amo hx);show um a xs (ae xs) (i:Int)=_;unfold um J9;have e:∀ y:dk,bk 56 a [y]=true:=fun y=>amq (by simp;omega)
  rw[aL hx,aD hx,aM _ hx];dsimp only[oT];rw[jl (by omega),aU (by omega)];dsimp only[oT,oB];rw[e];try rfl) (fun i x a a' hx ha hf=>by
  simp only[amx]at hf;rw[<- hf,amj,ha];try rfl) (fun a ha=>by
  show um a xs (ae xs) (xs.length:Int)=_;unfold um;rw[aA rfl];try rfl)
 rw[mh]at h;have h':SL [] xs (ae xs) 0=_:=h;rw[h'];try rfl
theorem oz(a:ax)(hb:bK a):PC a=some ((),(a,())):=by have bo:=bl;have h1:=hb.2.1.1;have h2:EO (a.2.2.2.2.2.2.1,a.2.2.2.2.2.2.2.1,a.2.2.2.2.2.2.2.2.1,a.2.2.2.2.2.2.2.2.2.1,())=_:=yT (dt a) hb.2.2.1;have h3:=wj _ hb.2.2.2.1 (fun y hy=>(hb.2.2.2.2 y hy).2.2);unfold PC;rw[jl (by omega),h2,h3];try rfl
theorem F5(a:ax)(hb:bK a):Sw a=some ((),(a,())):=by have bo:=bl;have h1:=hb.2.1.1;have h2:E4 (a.2.2.2.2.2.2.1,a.2.2.2.2.2.2.2.1,a.2.2.2.2.2.2.2.2.1,a.2.2.2.2.2.2.2.2.2.1,())=_:=zt (dt a) hb.2.2.1;have h3:=CF _ hb.2.2.2.1 (fun y hy=>(hb.2.2.2.2 y hy).2.2);unfold Sw DW;rw[jl (by omega),h2,h3];try rfl
theorem sQ{α Y:Type}(p:α->Bool)(z:List α->Y):∀(xs:List α) (i:Nat) (d:List α),kO (fun _ x (a:List α)=>Sum.inl (bif p x then a++[x]else a)) z i xs d=z (d++xs.filter p)
 | [],_,d=>by simp[kO]
 | x::r,i,d=>by
   rw[kO];simp only;rw[sQ p z r (i+1)];cases hp:p x with
   | true=>simp[hp]
   | false=>simp[hp]
def gD(now:Int)(h:aP):Bool:=aE now h.2.2.1
theorem TB(xs:List aP)(now:Int)(hs:xs.length<=1048576):Sf xs now=zR (xs.filter (gD now)):=by
 have bo:=bl;unfold Sf;have h:=aO (step:=pY tW) xs (fun i (a:List aP)=>(now,a,xs,ae xs,((i:Nat):Int),())) (fun _ x a=>Sum.inl (bif gD now x then a++[x]else a)) (fun a=> .inl (now,a,xs,ae xs,(xs.length:Int),())) (fun i a=>a.length<=i) (a0:=[]) (oR _) (fun i x a hx ha=>by
  have aV:=ah hx;show tW now a xs (ae xs) (i:Int)=_;unfold tW abn gD;have e:∀ y:aP,bk 32 a [y]=true:=fun y=>amq (by simp;omega)
  rw[aL hx,aD hx,aM _ hx];dsimp only[oT,oB];rw[e,aU (by omega)];cases aE now x.2.2.1 <;> rfl) (fun i x a a' hx ha hf=>by
  simp only[amx]at hf;rw[<- hf];cases gD now x with
  | true=>simp;omega
  | false=>simp;omega) (fun a ha=>by
  show tW now a xs (ae xs) (xs.length:Int)=_;unfold tW;rw[aA rfl];try rfl)
 rw[sQ]at h;have h':RM now [] xs (ae xs) 0=_:=h;rw[h'];try rfl
theorem M3(xs:List aP)(now:Int)(hs:xs.length<=1048576):XM xs (now,())=zR (dM (fun y=> !gD now y) 0 xs):=by
 have bo:=bl;unfold XM;have h:=aT (step:=ep tO) xs (fun i (_:Unit)=>(xs,((now,()),()),ae xs,((i:Nat):Int),())) (fun i y _=>bif !gD now y then Sum.inr (.inr ((i:Int),()))else Sum.inl ()) (fun _=> .inl (xs,((now,()),()),ae xs,(xs.length:Int),())) (a0:=()) (fun i y u hy=>by
  have aV:=ah hy;show tO xs ((now,()),()) (ae xs) (i:Int)=_;unfold tO Tq Vr gD;rw[aL hy,aD hy,aM _ hy,aU (by omega)];dsimp only[oT,oB];cases aE now y.2.2.1 <;> rfl) (fun u=>by
  show tO xs ((now,()),()) (ae xs) (xs.length:Int)=_;unfold tO;rw[aA rfl];try rfl)
 have h':TD xs ((now,()),()) (ae xs) 0=_:=h;rw[h'];have hf:=ij (Y:=Sum ((List aP)×((Int×Unit)×Unit)×Int×Int×Unit) (Int×Unit)) (fun(y:aP)=> !gD now y) (fun n=> .inr (n,())) (.inl (xs,((now,()),()),ae xs,(xs.length:Int),())) (fun y=>match y with | .inl _=> -1 | .inr z=>z.1) (fun _=>rfl) rfl xs 0;rw[<- hf];dsimp only[oB];cases kO _ _ 0 xs () <;> rfl
theorem sj{α:Type}(p:α->Bool):∀(xs:List α) (k:Nat),dM p k xs = -1->xs.filter (fun y=> !p y)=xs
 | [],_,_=>rfl
 | x::r,k,h=>by
   rw[dM]at h;cases hp:p x with
   | true=>rw[hp]at h;simp only[oT]at h;omega
   | false=>rw[hp]at h;simp only[oF]at h;rw[aoT (by simp[hp]),sj p r (k+1) h]
theorem mo{α:Type}(p:α->Bool):∀(xs:List α) (k:Nat),dM p k xs ≠ -1->∃ i x,dM p k xs=((k+i:Nat):Int)/\xs[i]? = some x/\p x=true/\(xs.take i).filter (fun y=> !p y)=xs.take i
 | [],_,h=>absurd rfl h
 | x::r,k,h=>by
   rw[dM]at h ⊢;cases hp:p x with
   | true=>exact⟨0,x,by simp,rfl,hp,rfl⟩
   | false=>rw[hp]at h;simp only[oF]at h ⊢;obtain⟨i,y,h1,h2,h3,h4⟩:=mo p r (k+1) h;refine⟨i+1,y,by rw[h1];omega,by simpa using h2,h3,?_⟩;rw[ao8,aoT (by simp[hp]),h4]
theorem Kw{α:Type}{done:List α}{x y:α}{r:List α}{i:Nat}(h:done.length=i):(done++x::r).set i y=done++y::r:=by subst h;simp[List.set_append]
theorem TN(xs:List aP)(now:Int)(hs:xs.length<=1048576):TH xs (now,())=zR (xs.filter (gD now)):=by
 have bo:=bl;have It:(fun y:aP=> !(!gD now y))=gD now:=by funext y;simp
 unfold TH;rw[M3 xs now hs];dsimp only[oB];by_cases hf:dM (fun y=> !gD now y) 0 xs = -1
 . have:=sj _ _ _ hf;rw[It]at this;rw[hf,this];try rfl
 . obtain⟨k,x0,h1,h2,h3,h4⟩:=mo _ _ _ hf;rw[It]at h4;rw[amt]at h1;have hk:=ah h2;have he:aj (k:Int) (-1)=false:=by unfold aj;rw[beq_eq_false_iff_ne];omega
   rw[h1,he,aU (by omega)];dsimp only[oF];obtain⟨⟨cur,i⟩,hI,hl⟩:=oI (step:=ep qj) xs (fun j (a:List aP×Nat)=>(a.1,((now,()),()),(a.2:Int),((j:Nat):Int),())) (fun a=> .inl (a.1,((now,()),()),(a.2:Int),(xs.length:Int),())) (fun j a=>a.1.length=xs.length/\a.2<j/\a.1.take a.2=(xs.take j).filter (gD now)/\a.1.drop j=xs.drop j) (fun j x a hx ha=>by
    obtain⟨cur,i⟩:=a;obtain⟨Cn,ux,ha3,ha4⟩:=ha;simp only at Cn ux ha3 ha4;have aV:=ah hx;have yf:cur[j]? = some x:=by
     have e1:(cur.drop j)[0]? = some x:=by rw[ha4,anq,amN];exact hx
     rw[anq,amN]at e1;exact e1
    have H2:cur.drop (j+1)=xs.drop (j+1):=by have:=amP List.tail ha4;simpa using this
    have mS:qj cur ((now,()),()) (i:Int) (j:Int)=some (.inl (bif gD now x then (cur.set i x,((now,()),()),((i+1:Nat):Int),((j+1:Nat):Int),())else (cur,((now,()),()),(i:Int),((j+1:Nat):Int),()))):=by
     unfold qj Tq Vr gD;have hi:i<cur.length:=by omega
     have Is:cur=cur.take i++cur[i]::cur.drop (i+1):=by rw[<- aos hi,aod]
     have Fw:(cur.take i).length=i:=by rw[am9];omega
     rw[aL yf,aD yf,aM _ yf,ig hi,aU (show j<=bQ by omega),aU (show i<=bQ by omega)];dsimp only[oT,oB];cases aE now x.2.2.1 with
     | false=>rfl
     | true=>dsimp only[oT,oF,oN,oM];generalize hci:cur[i]=ci at Is;generalize hD:cur.drop (i+1)=D at Is;generalize hT:cur.take i=T at Is Fw;rw[Is];simp only[mc _ Fw,et Fw,Kw Fw];try rfl
    cases Yt:gD now x with
    | true=>
      rw[Yt]at mS;refine⟨(cur.set i x,i+1),mS,by simp[Cn],by omega,?_,?_⟩
      . show(cur.set i x).take (i+1)=_;have hi:i<cur.length:=by omega
        rw[anI,aoX hi,List.take_set_of_le (oR _),ha3,anI,hx];simp[an1,Yt]
      . show(cur.set i x).drop (j+1)=_;rw[List.drop_set_of_lt (by omega),H2]
    | false=>
      rw[Yt]at mS;refine⟨(cur,i),mS,Cn,by omega,?_,H2⟩;show cur.take i=_;rw[ha3,anI,hx];simp[an1,Yt]) (fun a ha=>by
    show qj a.1 ((now,()),()) (a.2:Int) (xs.length:Int)=_;unfold qj;rw[aA ha.1];try rfl) (xs.length-(k+1)) (k+1) (xs,k) (by omega) ⟨rfl,by omega,by
    show xs.take k=_;have Dv:gD now x0=false:=by simpa using h3
    rw[anI,h2,an1,h4];simp[Dv],rfl⟩
   obtain⟨i1,i2,i3,_⟩:=hI;simp only at i1 i2 i3;have Mk:EK xs ((now,()),()) (k:Int) ((k+1:Nat):Int)=some (.inl (cur,((now,()),()),(i:Int),(xs.length:Int),())):=hl;rw[Mk];dsimp only[oB,oL];have c1:eY (i:Int) (ae cur) cur=true:=by unfold eY jS cl ae;rw[amk (by omega),amk (by omega),amk (by omega)];try rfl
   have c0:(nI ([],0,0,()) cur (i:Int))=cur.take i++List.replicate (cur.length-i) ([],0,0,()):=by unfold nI UW;simp
   have c3:Wy (nI d192 cur (i:Int)) (i:Int)=cur.take i:=by
    show Wy (nI ([],0,0,()) cur (i:Int)) (i:Int)=_;rw[c0];unfold Wy;have:(cur.take i).length=i:=by rw[am9];omega
    simp only[ano];rw[aoi (by omega),anU (by omega)]
   have c2:eY 0 (i:Int) (nI d192 cur (i:Int))=true:=by show eY 0 (i:Int) (nI ([],0,0,()) cur (i:Int))=true;rw[c0];exact kC (by simp;omega)
   rw[c1];dsimp only[oT];rw[c2,c3,i3,aoH];try rfl
theorem Tx(xs:List aP)(now:Int)(hs:xs.length<=1048576):Sd xs now=zR (xs.filter (gD now)):=by have bo:=bl;unfold Sd DW;rw[jl (by omega)];dsimp only[oT,oB];rw[TN xs now hs];try rfl
def aC(a:ax)(now:Int):ax:=cond (bp a) (cond (bh now) (a.1,a.2.1,a.2.2.1,a.2.2.2.1,a.2.2.2.2.1,a.2.2.2.2.2.1.filter (gD now),a.2.2.2.2.2.2.1,a.2.2.2.2.2.2.2.1,a.2.2.2.2.2.2.2.2.1,a.2.2.2.2.2.2.2.2.2.1,a.2.2.2.2.2.2.2.2.2.2.1,()) a) a
theorem ni(a:ax)(now:Int)(hb:bK a):Bp a now=some ((),(aC a now,())):=by unfold Bp aC;rw[oz a hb,mL a hb,iQ,TB _ now hb.2.1.1];dsimp only[oB];cases bp a <;> cases bh now <;> rfl
theorem nx(a:ax)(now:Int)(hb:bK a):Sr a now=some ((),(aC a now,())):=by unfold Sr aC;rw[F5 a hb,nD a hb,iM,Tx _ now hb.2.1.1];dsimp only[oB];cases bp a <;> cases bh now <;> rfl
theorem dR{a:ax}(now:Int)(hb:bK a):bK (aC a now):=by
 unfold aC;cases bp a with
 | false=>exact hb
 | true=>
   cases bh now with
   | false=>exact hb
   | true=>obtain⟨h1,⟨h2,h3⟩,h4,h5,h6⟩:=hb;exact⟨h1,⟨amp (am8 _ _) h2,fun y hy=>h3 y (anw.1 hy).1⟩,h4,h5,h6⟩
def az(xs:List aP)(id:S8):Int:=dM (fun y=>bF y.1 id) 0 xs
theorem ob(xs:List aP)(id:S8)(hs:xs.length<=1048576):E1 xs id=zR (az xs id):=by
 have bo:=bl;unfold E1 az;have h:=aT (step:=ep tD) xs (fun i (_:Unit)=>(id,xs,ae xs,((i:Nat):Int),())) (fun i y _=>bif bF y.1 id then Sum.inr (.inr ((i:Int),()))else Sum.inl ()) (fun _=> .inl (id,xs,ae xs,(xs.length:Int),())) (a0:=()) (fun i y u hy=>by
  have aV:=ah hy;show tD id xs (ae xs) (i:Int)=_;unfold tD;rw[aL hy,aD hy,aM _ hy,aU (by omega)];dsimp only[oT];cases bF y.1 id <;> rfl) (fun u=>by
  show tD id xs (ae xs) (xs.length:Int)=_;unfold tD;rw[aA rfl];try rfl)
 have h':RZ id xs (ae xs) 0=_:=h;rw[h'];have hf:=ij (Y:=Sum (S8×(List aP)×Int×Int×Unit) (Int×Unit)) (fun(y:aP)=>bF y.1 id) (fun n=> .inr (n,())) (.inl (id,xs,ae xs,(xs.length:Int),())) (fun y=>match y with | .inl _=> -1 | .inr z=>z.1) (fun _=>rfl) rfl xs 0;rw[<- hf];dsimp only[oB];cases kO _ _ 0 xs () <;> rfl
theorem iY(xs:List aP)(id:S8)(hs:xs.length<=1048576):J2 xs id=zR (az xs id):=by
 have bo:=bl;unfold J2 JN az;have h:=aT (step:=ep l9) xs (fun i (_:Unit)=>(xs,((id,()),()),ae xs,((i:Nat):Int),())) (fun i y _=>bif bF y.1 id then Sum.inr (.inr ((i:Int),()))else Sum.inl ()) (fun _=> .inl (xs,((id,()),()),ae xs,(xs.length:Int),())) (a0:=()) (fun i y u hy=>by
  have aV:=ah hy;show l9 xs ((id,()),()) (ae xs) (i:Int)=_;unfold l9 adI;rw[aL hy,aD hy,aM _ hy,aU (by omega)];dsimp only[oT,oB];cases bF y.1 id <;> rfl) (fun u=>by
  show l9 xs ((id,()),()) (ae xs) (xs.length:Int)=_;unfold l9;rw[aA rfl];try rfl)
 have h':Hv xs ((id,()),()) (ae xs) 0=_:=h;rw[h'];have hf:=ij (Y:=Sum ((List aP)×(R9×Unit)×Int×Int×Unit) (Int×Unit)) (fun(y:aP)=>bF y.1 id) (fun n=> .inr (n,())) (.inl (xs,((id,()),()),ae xs,(xs.length:Int),())) (fun y=>match y with | .inl _=> -1 | .inr z=>z.1) (fun _=>rfl) rfl xs 0;rw[<- hf];dsimp only[oB];cases kO _ _ 0 xs () <;> rfl
def vl(xs:List aP)(now:Int):Int:=uS (xs.filter (gD now))
theorem N0(xs:List aP)(now:Int)(hs:xs.length<=1048576):Xs xs now=zR (vl xs now):=by unfold Xs;rw[TB xs now hs];dsimp only[oB];rw[HD _ (cg (amp (am8 _ _) hs))];try rfl
theorem NL(xs:List aP)(now:Int)(hs:xs.length<=1048576):Xl xs now=zR (vl xs now):=by unfold Xl;rw[Tx xs now hs];dsimp only[oB];rw[FE _ (cg (amp (am8 _ _) hs))];try rfl
def hY(a:ax)(now:Int):Int:=cond (bp a) (cond (bh now) (bf .i64 (bf .i64 a.2.1 a.2.2.1) (vl a.2.2.2.2.2.1 now)) 0) 0
theorem Iv(a:ax)(now:Int)(hb:bK a):OD a now=zR (hY a now):=by unfold OD hY;rw[mL a hb,iQ,N0 _ now hb.2.1.1];dsimp only[oB];cases bp a <;> cases bh now <;> rfl
theorem IC(a:ax)(now:Int)(hb:bK a):MM a now=zR (hY a now):=by unfold MM hY;rw[nD a hb,iM,NL _ now hb.2.1.1];dsimp only[oB];cases bp a <;> cases bh now <;> rfl
def shE(n:Int)(xs:List (Int×Unit))(j:Nat):Int×Unit:=cond (cl n (j:Int)) (gt (0,()) xs ((j:Int)-n)) (0,())
def dY(n:Int)(xs:List (Int×Unit)):List (Int×Unit):=(List.range xs.length).map (shE n xs)
theorem fK(n:Int)(xs:List (Int×Unit)):(dY n xs).length=xs.length:=by simp[dY]
theorem tA{n:Int}{xs:List (Int×Unit)}{j:Nat}(h:j<xs.length):(dY n xs)[j]? = some (shE n xs j):=by simp[dY,h]
theorem we{α:Type}{xs:List α}{i:Nat}{x:α}(h:xs[i]? = some x):xs.take (i+1)=xs.take i++[x]:=by rw[anI,h];try rfl
theorem CG(n:Int)(xs:List (Int×Unit))(hs:xs.length<=1048576)(hn:0<=n/\n<=1000000000):QC xs n=zR (dY n xs):=by
 have bo:=bl;unfold QC;dsimp only;rw[tG (by decide) (by omega),mK];obtain⟨u,_,hl⟩:=oI (A:=Unit) (step:=pY tX) xs (fun j _=>(xs,n,(dY n xs).take j++List.replicate (xs.length-j) (0,()),ae xs,((j:Nat):Int),())) (fun _=> .inl (xs,n,dY n xs,ae xs,(xs.length:Int),())) (fun _ _=>True) (fun j x a hx _=>by
  have aV:=ah hx;have B1:=tA (n:=n) aV;have Fw:((dY n xs).take j).length=j:=by rw[am9,fK];omega
  refine⟨(),?_,trivial⟩;show tX xs n ((dY n xs).take j++List.replicate (xs.length-j) (0,())) (ae xs) (j:Int)=some (.inl (xs,n,(dY n xs).take (j+1)++List.replicate (xs.length-(j+1)) (0,()),ae xs,((j+1:Nat):Int),()));obtain⟨q,hq⟩:∃ q,xs.length-j=q+1:=⟨xs.length-j-1,by omega⟩;have wb:xs.length-(j+1)=q:=by omega
  rw[hq,wb,an6,we B1];unfold tX shE;rw[aL hx,fb Fw,aU (by omega)];dsimp only[oT];by_cases hle:n<=(j:Int)
  . have e1:cl n (j:Int)=true:=amk hle;have e2:aX ((j:Int)-n) xs=true:=by
     have e:(j:Int)-n=(((j:Int)-n).toNat:Int):=by omega
     rw[e];exact ig (by omega)
    rw[e1,bG (by omega) (by omega),e2];dsimp only[oT];rw[et Fw,amH];try rfl
  . have e1:cl n (j:Int)=false:=amF hle;rw[e1];dsimp only[oF];rw[amH];try rfl) (fun a _=>by
  show tX xs n ((dY n xs).take xs.length++List.replicate (xs.length-xs.length) (0,())) (ae xs) (xs.length:Int)=_;unfold tX;rw[aA rfl,an8,an7,amZ,anU (by rw[fK];exact oR _)];try rfl) xs.length 0 () (by omega) trivial
 have Mk:Px xs n (List.replicate xs.length (0,())) (ae xs) 0=_:=hl;rw[show(List.replicate xs.length d3)=List.replicate xs.length (0,())from rfl,Mk];try rfl
def ky(r:gv)(now:Int):gv:=cond (gU r) (cond (bh now) (cond (cl (now / r.1) r.2.1) r (r.1,now / r.1,dY (now / r.1-r.2.1) r.2.2.1,dY (now / r.1-r.2.1) r.2.2.2.1,())) r) r
theorem wD{a b:Int}(h:a≠b):aj a b=false:=by unfold aj;rw[beq_eq_false_iff_ne];exact h
theorem PM{now s:Int}(h:0<=now/\now<=1000000000)(h2:1<=s):kr .i64 now s=now / s/\0<=now / s/\now / s<=1000000000:=by have h3:0<=now / s:=aoy h.1 (by omega);have h4:now / s<=now:=Int.ediv_le_self _ h.1;refine⟨?_,h3,by omega⟩;unfold kr;rw[anS h.1];exact IntWalk.i64_in _ (by omega)
theorem JP(r:gv)(now:Int)(hb:kd r):OB r now=some ((),(ky r now,())):=by
 unfold OB ky;rw[zt r hb,zq r hb,iM];dsimp only[oB];cases hr:gU r with
 | false=>rfl
 | true=>
 cases ht:bh now with
 | false=>rfl
 | true=>
 obtain⟨s1,s2,s3,s4⟩:=mG hr;have tn:=bB.1 ht;obtain⟨q1,q2,q3⟩:=PM tn s1.1;dsimp only[oT,oF,oN];rw[wD (show r.1≠0 by omega),q1]
 try dsimp only[oT,oF,oN,oM]
 by_cases hle:now / r.1<=r.2.1
 . rw[show cl (now / r.1) r.2.1=true from amk hle];try rfl
 . rw[show cl (now / r.1) r.2.1=false from amF hle];dsimp only[oT,oF,oN];rw[bG (by omega) (by omega),CG _ _ hb.1 (by omega),CG _ _ hb.2 (by omega)];try rfl
theorem Tz(r:gv)(now:Int)(hb:kd r):PF r now=some ((),(ky r now,())):=by
 have bo:=bl;unfold PF ky;rw[yT r hb,Dz r hb,iQ];dsimp only[oB];cases hr:gU r with
 | false=>rfl
 | true=>
 cases ht:bh now with
 | false=>rfl
 | true=>
 obtain⟨s1,s2,s3,s4⟩:=mG hr;have tn:=bB.1 ht;obtain⟨q1,q2,q3⟩:=PM tn s1.1;dsimp only[oT,oF,oN];rw[wD (show r.1≠0 by omega),q1]
 try dsimp only[oT,oF,oN,oM]
 by_cases hle:now / r.1<=r.2.1
 . rw[show cl (now / r.1) r.2.1=true from amk hle];try rfl
 . rw[show cl (now / r.1) r.2.1=false from amF hle];dsimp only[oT,oF,oN];rw[bG (a:=now / r.1) (b:=r.2.1) (by omega) (by omega)];obtain⟨sp,hd,cs,ss,u⟩:=r;obtain⟨⟩:=u;simp only at s1 s2 s3 s4 q1 q2 q3 hle ⊢;have hn:0<=now / sp-hd/\now / sp-hd<=1000000000:=by omega
   generalize It:now / sp-hd=n at hn ⊢;obtain⟨u,_,hl⟩:=oI (A:=Unit) (step:=Az tg) cs (fun j _=>(now,n,ae cs,((j:Nat):Int),(sp,hd,cs,ss,()),(0,0,[],[],()),(sp,hd,(dY n cs).take j++cs.drop j,(dY n ss).take j++ss.drop j,()),())) (fun _=> .inl (now,n,ae cs,(cs.length:Int),(sp,hd,cs,ss,()),(0,0,[],[],()),(sp,hd,dY n cs,dY n ss,()),())) (fun _ _=>True) (fun j x a hx _=>by
    have aV:=ah hx;obtain⟨y,hy⟩:∃ y,ss[j]? = some y:=⟨ss[j]'(by omega),amm (by omega)⟩;have B1:=tA (n:=n) aV;have al3:=tA (n:=n) (ah hy);have Fw:((dY n cs).take j).length=j:=by rw[am9,fK];omega
    have Yu:((dY n ss).take j).length=j:=by rw[am9,fK];omega
    refine⟨(),?_,trivial⟩;show tg now n (ae cs) (j:Int) (sp,hd,cs,ss,()) (0,0,[],[],()) (sp,hd,(dY n cs).take j++cs.drop j,(dY n ss).take j++ss.drop j,())=some (.inl (now,n,ae cs,((j+1:Nat):Int),(sp,hd,cs,ss,()),(0,0,[],[],()),(sp,hd,(dY n cs).take (j+1)++cs.drop (j+1),(dY n ss).take (j+1)++ss.drop (j+1),()),()));rw[iX hx,iX hy,we B1,we al3];unfold tg shE;dsimp only;rw[aL hx,fb Fw,fb Yu,aU (by omega),et Fw,et Yu];dsimp only[oT];by_cases hle:n<=(j:Int)
    . have e1:cl n (j:Int)=true:=amk hle;have e:(j:Int)-n=(((j:Int)-n).toNat:Int):=by omega
      have e2:aX ((j:Int)-n) cs=true:=by rw[e];exact ig (by omega)
      have e3:aX ((j:Int)-n) ss=true:=by rw[e];exact ig (by omega)
      rw[e1,bG (by omega) (by omega),e2,e3];dsimp only[oT];rw[fb Fw,fb Yu,et Fw,et Yu,amH,amH];try rfl
    . have e1:cl n (j:Int)=false:=amF hle;rw[e1];dsimp only[oF];rw[amH,amH];try rfl) (fun a _=>by
    show tg now n (ae cs) (cs.length:Int) (sp,hd,cs,ss,()) (0,0,[],[],()) (sp,hd,(dY n cs).take cs.length++cs.drop cs.length,(dY n ss).take cs.length++ss.drop cs.length,())=_;unfold tg;rw[aA rfl,an2,<- s3,an2,amZ,amZ,anU (by rw[fK];omega),anU (by rw[fK];omega)];try rfl) cs.length 0 () (by omega) trivial
   have Mk:Tp now n (ae cs) 0 (sp,hd,cs,ss,()) (0,0,[],[],()) (sp,hd,cs,ss,())=_:=hl;rw[Mk];dsimp only[oB,oL];rw[wD (show sp≠0 by omega),q1];try rfl
theorem J4{r:gv}(now:Int)(hb:kd r):kd (ky r now):=by
 unfold ky;cases gU r with
 | false=>exact hb
 | true=>
   cases bh now with
   | false=>exact hb
   | true=>
     cases cl (now / r.1) r.2.1 with
     | true=>exact hb
     | false=>exact⟨by show(dY _ _).length<=_;rw[fK];exact hb.1,by show(dY _ _).length<=_;rw[fK];exact hb.2⟩
theorem vO(r:gv)(now:Int):(ky r now).2.2.1.length=r.2.2.1.length/\(ky r now).2.2.2.1.length=r.2.2.2.1.length:=by unfold ky;cases gU r <;> cases bh now <;> cases cl (now / r.1) r.2.1 <;> first | exact⟨rfl,rfl⟩ | exact⟨fK _ _,fK _ _⟩
def T6(xs:List (Int×Unit)):Int:=xs.foldl (fun a x=>fk a x.1) 0
theorem Lq(xs:List (Int×Unit))(hs:xs.length<=1048576):Re xs=zR (T6 xs):=by
 have bo:=bl;unfold Re;have h:=aT (step:=ep sv) xs (fun i (a:Int)=>(a,xs,ae xs,((i:Nat):Int),())) (fun _ x a=>Sum.inl (fk a x.1)) (fun a=> .inl (a,xs,ae xs,(xs.length:Int),())) (a0:=0) (fun i x a hx=>by
  have aV:=ah hx;show sv a xs (ae xs) (i:Int)=_;unfold sv;rw[aL hx,aD hx,aM _ hx,aU (by omega),zz];try rfl) (fun a=>by
  show sv a xs (ae xs) (xs.length:Int)=_;unfold sv;rw[aA rfl];try rfl)
 rw[bS (fun(x:Int×Unit) a=>fk a x.1)]at h;have h':T0 0 xs (ae xs) 0=_:=h;rw[h'];try rfl
def rI(r:gv)(now:Int)(sums:Bool):Int:=cond (gU r) (cond (bh now) (T6 (cond sums (ky r now).2.2.2.1 (ky r now).2.2.1)) 0) 0
theorem KK(r:gv)(now:Int)(b:Bool)(hb:kd r):Qe r now b=zR (rI r now b):=by
 have bo:=bl;unfold Qe rI;rw[Dz r hb,iQ,Tz r now hb];dsimp only[oB];cases hr:gU r with
 | false=>rfl
 | true=>
 cases ht:bh now with
 | false=>rfl
 | true=>
 dsimp only[oT,oF,oN];obtain⟨s1,s2,s3,s4⟩:=mG hr;have hlen:=vO r now;have hrb:=J4 now hb;generalize ky r now=q at hlen hrb ⊢;obtain⟨l1,l2⟩:=hlen;obtain⟨yQ,l6⟩:=hrb;have hq:q.2.2.2.1.length=q.2.2.1.length:=by omega
 cases b with
 | false=>
   have h:=aT (step:=pY lC) q.2.2.1 (fun i (a:Int)=>(false,a,ae q.2.2.1,((i:Nat):Int),q,())) (fun _ x a=>Sum.inl (fk a x.1)) (fun a=> .inl (false,a,ae q.2.2.1,(q.2.2.1.length:Int),q,())) (a0:=0) (fun i x a hx=>by
    have aV:=ah hx;show lC false a (ae q.2.2.1) (i:Int) q=_;unfold lC;rw[aL hx,aD hx,aM _ hx,aU (by omega)];dsimp only[oT,oF];rw[xV];try rfl) (fun a=>by
    show lC false a (ae q.2.2.1) (q.2.2.1.length:Int) q=_;unfold lC;rw[aA rfl];try rfl)
   rw[bS (fun(x:Int×Unit) a=>fk a x.1)]at h;have h':JI false 0 (ae q.2.2.1) 0 q=_:=h;rw[h'];try rfl
 | true=>
   have hl:ae q.2.2.1=ae q.2.2.2.1:=by unfold ae;omega
   rw[hl];have h:=aT (step:=pY lC) q.2.2.2.1 (fun i (a:Int)=>(true,a,ae q.2.2.2.1,((i:Nat):Int),q,())) (fun _ x a=>Sum.inl (fk a x.1)) (fun a=> .inl (true,a,ae q.2.2.2.1,(q.2.2.2.1.length:Int),q,())) (a0:=0) (fun i x a hx=>by
    have aV:=ah hx;show lC true a (ae q.2.2.2.1) (i:Int) q=_;unfold lC;rw[aL hx,aD hx,aM _ hx,aU (by omega)];dsimp only[oT,oF];rw[xV];try rfl) (fun a=>by
    show lC true a (ae q.2.2.2.1) (q.2.2.2.1.length:Int) q=_;unfold lC;rw[aA rfl];try rfl)
   rw[bS (fun(x:Int×Unit) a=>fk a x.1)]at h;have h':JI true 0 (ae q.2.2.2.1) 0 q=_:=h;rw[h'];try rfl
theorem XP(r:gv)(now:Int)(hb:kd r):TW r now=zR (rI r now false):=by unfold TW;rw[KK r now false hb];try rfl
theorem ags(r:gv)(now:Int)(hb:kd r):RD r now=zR (rI r now true):=by unfold RD;rw[KK r now true hb];try rfl
theorem WT(r:gv)(now:Int)(hb:kd r):S5 r now=zR (rI r now false):=by unfold S5 rI;rw[zq r hb,iM,JP r now hb];dsimp only[oB];rw[Lq _ (J4 now hb).1];cases gU r <;> cases bh now <;> rfl
theorem agi(r:gv)(now:Int)(hb:kd r):So r now=zR (rI r now true):=by unfold So rI;rw[zq r hb,iM,JP r now hb];dsimp only[oB];rw[Lq _ (J4 now hb).2];cases gU r <;> cases bh now <;> rfl
def ik(a:ax)(bJ now:Int):Int:=cond (aE (hY a now) bJ) 7 (cond (aE a.2.2.2.1 (fk (rI (dt a) now false) 1)) 8 (cond (aE a.2.2.2.2.1 (fk (rI (dt a) now true) bJ)) 9 0))
theorem Q5(a:ax)(bJ now:Int)(hb:bK a):Ry a bJ now=zR (ik a bJ now):=by
 have h1:TW (a.2.2.2.2.2.2.1,a.2.2.2.2.2.2.2.1,a.2.2.2.2.2.2.2.2.1,a.2.2.2.2.2.2.2.2.2.1,()) now=_:=XP (dt a) now hb.2.2.1;have h2:RD (a.2.2.2.2.2.2.1,a.2.2.2.2.2.2.2.1,a.2.2.2.2.2.2.2.2.1,a.2.2.2.2.2.2.2.2.2.1,()) now=_:=ags (dt a) now hb.2.2.1;unfold Ry ik;rw[Iv a now hb,h1,h2];dsimp only[oB];rw[xV,xV];dsimp only[oB];cases aE (hY a now) bJ <;> first | rfl | skip
 cases aE a.2.2.2.1 (fk (rI (dt a) now false) 1) <;> first | rfl | skip
 cases aE a.2.2.2.2.1 (fk (rI (dt a) now true) bJ) <;> rfl
theorem TG(a:ax)(bJ now:Int)(hb:bK a):Ts a bJ now=zR (ik a bJ now):=by
 have h1:S5 (a.2.2.2.2.2.2.1,a.2.2.2.2.2.2.2.1,a.2.2.2.2.2.2.2.2.1,a.2.2.2.2.2.2.2.2.2.1,()) now=_:=WT (dt a) now hb.2.2.1;have h2:So (a.2.2.2.2.2.2.1,a.2.2.2.2.2.2.2.1,a.2.2.2.2.2.2.2.2.1,a.2.2.2.2.2.2.2.2.2.1,()) now=_:=agi (dt a) now hb.2.2.1;unfold Ts ik;rw[IC a now hb,h1,h2];dsimp only[oB];rw[zz,zz];dsimp only[oB];cases aE (hY a now) bJ <;> first | rfl | skip
 cases aE a.2.2.2.1 (fk (rI (dt a) now false) 1) <;> first | rfl | skip
 cases aE a.2.2.2.2.1 (fk (rI (dt a) now true) bJ) <;> rfl
def dv(r:gv)(now bJ:Int):gv:=cond (gU r) (cond (bh now) (cond (bY bJ) ((ky r now).1,(ky r now).2.1,cZ (ky r now).2.2.1 0 (fk (gt (0,()) (ky r now).2.2.1 0).1 1,()),cZ (ky r now).2.2.2.1 0 (fk (gt (0,()) (ky r now).2.2.2.1 0).1 bJ,()),()) r) r) r
theorem LK{α:Type}{xs:List α}(h:1<=xs.length):aX 0 xs=true:=ig (i:=0) (by omega)
theorem CA(r:gv)(now bJ:Int)(hb:kd r):Ix r now bJ=some ((),(dv r now bJ,())):=by
 unfold Ix dv;rw[Dz r hb,iQ,pJ,yT r hb,Tz r now hb];dsimp only[oB];cases hr:gU r with
 | false=>rfl
 | true=>
 cases bh now with
 | false=>rfl
 | true=>
 cases bY bJ with
 | false=>rfl
 | true=>
 obtain⟨s1,s2,s3,s4⟩:=mG hr;have hlen:=vO r now;dsimp only[oT,oF,oN];rw[LK (by omega),LK (by omega),xV,xV];try rfl
theorem CW(r:gv)(now bJ:Int)(hb:kd r):Es r now bJ=some ((),(dv r now bJ,())):=by
 unfold Es dv;rw[zq r hb,iM,Et,zt r hb,JP r now hb];dsimp only[oB];cases hr:gU r with
 | false=>rfl
 | true=>
 cases bh now with
 | false=>rfl
 | true=>
 cases bY bJ with
 | false=>rfl
 | true=>
 obtain⟨s1,s2,s3,s4⟩:=mG hr;have hlen:=vO r now;dsimp only[oT,oF,oN];rw[LK (by omega),LK (by omega),zz,zz];try rfl
theorem qM(r:gv)(now bJ:Int):(dv r now bJ).2.2.1.length=r.2.2.1.length/\(dv r now bJ).2.2.2.1.length=r.2.2.2.1.length:=by unfold dv;have h:=vO r now;cases gU r <;> cases bh now <;> cases bY bJ <;> first | exact⟨rfl,rfl⟩ | exact⟨by show(cZ _ _ _).length=_;simp only[cZ,ans];exact h.1,by show(cZ _ _ _).length=_;simp only[cZ,ans];exact h.2⟩
def aK:ax:=([],0,0,0,0,[],0,0,[],[],[],())
theorem jP{xs:List aP}{id:S8}(h:¬ az xs id<0):aX (az xs id) xs=true:=by
 rcases vc (fun(y:aP)=>bF y.1 id) xs 0 with h1 | h1
 . exfalso;apply h;show dM _ 0 xs<0;omega
 . have e:az xs id=((az xs id).toNat:Int):=by omega
   rw[e];have:az xs id<xs.length:=by have:=h1.2;simp only[az];omega
   exact ig (by omega)
def lM(a:ax)(id:S8)(bJ now:Int):ax×Int:=
 cond (cond (bp a) (cond (bh now) (bm id) false) false)
  (cond (de bJ 1 9007199254740992)
    (cond (aE (az (aC a now).2.2.2.2.2.1 id) 0) (aK,5)
      (cond (aj (ik (aC a now) bJ now) 0)
        (((aC a now).1,(aC a now).2.1,(aC a now).2.2.1,(aC a now).2.2.2.1,(aC a now).2.2.2.2.1,
          cZ (aC a now).2.2.2.2.2.1 (az (aC a now).2.2.2.2.2.1 id) ((gt ([],0,0,()) (aC a now).2.2.2.2.2.1 (az (aC a now).2.2.2.2.2.1 id)).1,ak .i64 (gt ([],0,0,()) (aC a now).2.2.2.2.2.1 (az (aC a now).2.2.2.2.2.1 id)).2.1 bJ,(gt ([],0,0,()) (aC a now).2.2.2.2.2.1 (az (aC a now).2.2.2.2.2.1 id)).2.2.1,()),
          (dv (dt (aC a now)) now bJ).1,(dv (dt (aC a now)) now bJ).2.1,(dv (dt (aC a now)) now bJ).2.2.1,(dv (dt (aC a now)) now bJ).2.2.2.1,(aC a now).2.2.2.2.2.2.2.2.2.2.1,()),0)
        (aK,ik (aC a now) bJ now)))
    (aK,4))
  (aK,1)
theorem ab9(a:ax)(id:S8)(bJ now:Int)(hb:bK a)(hi:id.length<=1048576):Xa a id bJ now=some ((),((lM a id bJ now).1,((lM a id bJ now).2,()),())):=by
 have eD:=dR now hb;unfold Xa Ab lM;rw[mL a hb,iQ,mA id (cg hi),oP,ni a now hb];dsimp only[oB];generalize aC a now=s at eD ⊢;have h1:Ix (s.2.2.2.2.2.2.1,s.2.2.2.2.2.2.2.1,s.2.2.2.2.2.2.2.2.1,s.2.2.2.2.2.2.2.2.2.1,()) now bJ=_:=CA (dt s) now bJ eD.2.2.1;rw[ob _ id eD.2.1.1,Q5 s bJ now eD];dsimp only[oB];rw[h1];cases bp a <;> first | rfl | skip
 cases bh now <;> first | rfl | skip
 cases bm id <;> first | rfl | skip
 cases de bJ 1 9007199254740992 <;> first | rfl | skip
 dsimp only[oT,oF,oN,oB];by_cases ln:az s.2.2.2.2.2.1 id<0
 . rw[aR ln];try rfl
 . rw[aF ln,jP ln];dsimp only[oT,oF];cases aj (ik s bJ now) 0 <;> rfl
theorem adS(a:ax)(id:S8)(bJ now:Int)(hb:bK a)(hi:id.length<=1048576):Q2 a id bJ now=some ((),((lM a id bJ now).1,((lM a id bJ now).2,()),())):=by
 have eD:=dR now hb;unfold Q2 IH vy lM;rw[nD a hb,iM,mF id (cg hi),lv,nx a now hb];dsimp only[oB];generalize aC a now=s at eD ⊢;have h1:Es (s.2.2.2.2.2.2.1,s.2.2.2.2.2.2.2.1,s.2.2.2.2.2.2.2.2.1,s.2.2.2.2.2.2.2.2.2.1,()) now bJ=_:=CW (dt s) now bJ eD.2.2.1;have h2:=iY s.2.2.2.2.2.1 id eD.2.1.1;have h3:=TG s bJ now eD;have h0:=iY [] id (by decide);cases bp a with
 | false=>simp only[oT,oF,oN,oM,oB];rw[h0];try rfl
 | true=>
 cases bh now with
 | false=>simp only[oT,oF,oN,oM,oB];rw[h0];try rfl
 | true=>
 simp only[oT,oF,oN,oM,oB];rw[h2];dsimp only[oB];cases bm id with
 | false=>rfl
 | true=>
 cases de bJ 1 9007199254740992 with
 | false=>rfl
 | true=>
 by_cases ln:az s.2.2.2.2.2.1 id<0
 . rw[aR ln];try rfl
 . have Mu:aj 0 0=true:=rfl;rw[aF ln,Mu];simp only[oT,oF,oN,oM,oB];rw[h3];simp only[oT,oF,oN,oM,oB];rw[h1,jP ln,Mu];cases aj (ik s bJ now) 0 <;> rfl
theorem Hb:∀ s:S8,Op.bytesLess s s=false
 | []=>rfl
 | x::r=>by simp[Op.bytesLess,Hb r]
theorem uh:∀ s t u:S8,Op.bytesLess s t=true->Op.bytesLess t u=true->Op.bytesLess s u=true
 | [],[],u,h,_=>by simp[Op.bytesLess]at h
 | _::_,[],u,h,_=>by simp[Op.bytesLess]at h
 | _,_::_,[],_,h=>by simp[Op.bytesLess]at h
 | [],_::_,_::_,_,_=>by simp[Op.bytesLess]
 | x::r,y::t,z::u,h1,h2=>by
   simp only[Op.bytesLess,anv,anH,ami,beq_iff_eq]at h1 h2 ⊢;rcases h1 with h1 | ⟨rfl,h1⟩
   . rcases h2 with h2 | ⟨rfl,h2⟩
     . exact .inl (UInt8.lt_trans h1 h2)
     . exact .inl h1
   . rcases h2 with h2 | ⟨rfl,h2⟩
     . exact .inl h2
     . exact .inr ⟨rfl,uh r t u h1 h2⟩
theorem o8{xs:List aP}(h:di xs=true):xs.length<=4:=by
 unfold di at h;cases ha:allI (fC xs) 0 xs with
 | false=>rw[ha]at h;simp at h
 | true=>rw[ha]at h;have:(ae xs)<=4:=anf h;unfold ae at this;omega
theorem rU{xs:List aP}(h:di xs=true):xs.Pairwise fun a b=>BX a.1 b.1=true:=by
 unfold di at h;cases ha:allI (fC xs) 0 xs with
 | false=>rw[ha]at h;simp at h
 | true=>
   have adj:∀ i (h1:i+1<xs.length),BX (xs[i]'(by omega)).1 xs[i+1].1=true:=fun i h1=>by
    have:=gH _ ha (i:=i+1) (x:=xs[i+1]) (amm h1);unfold fC at this;cases hm:mH xs[i+1]with
    | false=>rw[hm]at this;simp at this
    | true=>rw[hm,amt,aR (show(0:Int)<((i+1:Nat):Int)by omega)]at this;simp only[oT]at this;rw[show((i+1:Nat):Int)-1=((i:Nat):Int)by omega,aM _ (amm (show i<xs.length by omega))]at this;exact this
   rw[aoK];intro i j hi hj Dr;obtain⟨d,rfl⟩:∃ d,j=i+1+d:=⟨j-i-1,by omega⟩;induction d with
   | zero=>exact adj i hj
   | succ d ih=>exact uh _ _ _ (ih (by omega) (by omega)) (adj (i+1+d) hj)
theorem s9{xs:List aP}(h:di xs=true):∀ x∈xs,mH x=true:=fun x hx=>by
 unfold di at h;cases ha:allI (fC xs) 0 xs with
 | false=>rw[ha]at h;simp at h
 | true=>
   obtain⟨i,hi,e⟩:=List.getElem_of_mem hx;have:=gH _ ha (i:=i) (x:=x) (by rw[amm hi,e]);unfold fC at this;cases hm:mH x with
   | false=>rw[hm]at this;simp at this
   | true=>rfl
theorem D8{α:Type}(p:Nat->α->Bool):∀(xs:List α) (k:Nat),(∀ i x,xs[i]? = some x->p (k+i) x=true)->allI p k xs=true
 | [],_,_=>rfl
 | x::r,k,h=>by unfold allI;have h0:=h 0 x rfl;rw[amN]at h0;rw[h0,D8 p r (k+1) fun i y hy=>by have:=h (i+1) y hy;rwa [show k+(i+1)=k+1+i by omega]at this];try rfl
theorem Mz{xs:List aP}(h1:∀ x∈xs,mH x=true)(h2:xs.Pairwise fun a b=>BX a.1 b.1=true)(h3:xs.length<=4):di xs=true:=by
 unfold di;rw[D8 _ xs 0 fun i x hx=>?_]
 . simp only[oT];exact amk (by unfold ae;omega)
 . have hi:=ah hx;have hxx:xs[i]=x:=by have:=amm hi;rw[this]at hx;exact am5 hx
   unfold fC;rw[h1 x (hxx ▸ List.getElem_mem hi),amt,oT];cases i with
   | zero=>rfl
   | succ i=>rw[aR (show(0:Int)<((i+1:Nat):Int)by omega),oT,show((i+1:Nat):Int)-1=((i:Nat):Int)by omega,aM _ (amm (show i<xs.length by omega)),<- hxx];exact aoK.1 h2 i (i+1) (by omega) hi (by omega)
theorem B8{xs:List aP}(p:aP->Bool)(h:di xs=true):di (xs.filter p)=true:=
 Mz (fun x hx=>s9 h x (anw.1 hx).1) ((rU h).filter _) (amp (am8 _ _) (o8 h))
def cj(id:S8)(h:aP):Bool:= !bF h.1 id
theorem Nl(xs:List aP)(id:S8)(hs:xs.length<=1048576):Ew xs (id,())=zR (dM (fun y=> !cj id y) 0 xs):=by
 have bo:=bl;unfold Ew;have h:=aT (step:=ep mx) xs (fun i (_:Unit)=>(xs,((id,()),()),ae xs,((i:Nat):Int),())) (fun i y _=>bif !cj id y then Sum.inr (.inr ((i:Int),()))else Sum.inl ()) (fun _=> .inl (xs,((id,()),()),ae xs,(xs.length:Int),())) (a0:=()) (fun i y u hy=>by
  have aV:=ah hy;show mx xs ((id,()),()) (ae xs) (i:Int)=_;unfold mx RN cj;rw[aL hy,aD hy,aM _ hy,aU (by omega)];dsimp only[oT,oB];cases bF y.1 id <;> rfl) (fun u=>by
  show mx xs ((id,()),()) (ae xs) (xs.length:Int)=_;unfold mx;rw[aA rfl];try rfl)
 have h':FU xs ((id,()),()) (ae xs) 0=_:=h;rw[h'];have hf:=ij (Y:=Sum ((List aP)×((S8×Unit)×Unit)×Int×Int×Unit) (Int×Unit)) (fun(y:aP)=> !cj id y) (fun n=> .inr (n,())) (.inl (xs,((id,()),()),ae xs,(xs.length:Int),())) (fun y=>match y with | .inl _=> -1 | .inr z=>z.1) (fun _=>rfl) rfl xs 0;rw[<- hf];dsimp only[oB];cases kO _ _ 0 xs () <;> rfl
theorem DV(xs:List aP)(id:S8)(hs:xs.length<=1048576):Bc xs (id,())=zR (xs.filter (cj id)):=by
 have bo:=bl;have It:(fun y:aP=> !(!cj id y))=cj id:=by funext y;simp
 unfold Bc;rw[Nl xs id hs];dsimp only[oB];by_cases hf:dM (fun y=> !cj id y) 0 xs = -1
 . have:=sj _ _ _ hf;rw[It]at this;rw[hf,this];try rfl
 . obtain⟨k,x0,h1,h2,h3,h4⟩:=mo _ _ _ hf;rw[It]at h4;rw[amt]at h1;have hk:=ah h2;have he:aj (k:Int) (-1)=false:=by unfold aj;rw[beq_eq_false_iff_ne];omega
   rw[h1,he,aU (by omega)];dsimp only[oF];obtain⟨⟨cur,i⟩,hI,hl⟩:=oI (step:=ep kX) xs (fun j (a:List aP×Nat)=>(a.1,((id,()),()),(a.2:Int),((j:Nat):Int),())) (fun a=> .inl (a.1,((id,()),()),(a.2:Int),(xs.length:Int),())) (fun j a=>a.1.length=xs.length/\a.2<j/\a.1.take a.2=(xs.take j).filter (cj id)/\a.1.drop j=xs.drop j) (fun j x a hx ha=>by
    obtain⟨cur,i⟩:=a;obtain⟨Cn,ux,ha3,ha4⟩:=ha;simp only at Cn ux ha3 ha4;have aV:=ah hx;have yf:cur[j]? = some x:=by
     have e1:(cur.drop j)[0]? = some x:=by rw[ha4,anq,amN];exact hx
     rw[anq,amN]at e1;exact e1
    have H2:cur.drop (j+1)=xs.drop (j+1):=by have:=amP List.tail ha4;simpa using this
    have mS:kX cur ((id,()),()) (i:Int) (j:Int)=some (.inl (bif cj id x then (cur.set i x,((id,()),()),((i+1:Nat):Int),((j+1:Nat):Int),())else (cur,((id,()),()),(i:Int),((j+1:Nat):Int),()))):=by
     unfold kX RN cj;have hi:i<cur.length:=by omega
     have Is:cur=cur.take i++cur[i]::cur.drop (i+1):=by rw[<- aos hi,aod]
     have Fw:(cur.take i).length=i:=by rw[am9];omega
     rw[aL yf,aD yf,aM _ yf,ig hi,aU (show j<=bQ by omega),aU (show i<=bQ by omega)];dsimp only[oT,oB];cases bF x.1 id with
     | true=>rfl
     | false=>
       try dsimp only[oT,oF,oN,oM]
       generalize hci:cur[i]=ci at Is;generalize hD:cur.drop (i+1)=D at Is;generalize hT:cur.take i=T at Is Fw;rw[Is];simp only[mc _ Fw,et Fw,Kw Fw];try rfl
    cases Yt:cj id x with
    | true=>
      rw[Yt]at mS;refine⟨(cur.set i x,i+1),mS,by simp[Cn],by omega,?_,?_⟩
      . show(cur.set i x).take (i+1)=_;have hi:i<cur.length:=by omega
        rw[anI,aoX hi,List.take_set_of_le (oR _),ha3,anI,hx];simp[an1,Yt]
      . show(cur.set i x).drop (j+1)=_;rw[List.drop_set_of_lt (by omega),H2]
    | false=>
      rw[Yt]at mS;refine⟨(cur,i),mS,Cn,by omega,?_,H2⟩;show cur.take i=_;rw[ha3,anI,hx];simp[an1,Yt]) (fun a ha=>by
    show kX a.1 ((id,()),()) (a.2:Int) (xs.length:Int)=_;unfold kX;rw[aA ha.1];try rfl) (xs.length-(k+1)) (k+1) (xs,k) (by omega) ⟨rfl,by omega,by
    show xs.take k=_;have Dv:cj id x0=false:=by simpa using h3
    rw[anI,h2,an1,h4];simp[Dv],rfl⟩
   obtain⟨i1,i2,i3,_⟩:=hI;simp only at i1 i2 i3;have Mk:uH xs ((id,()),()) (k:Int) ((k+1:Nat):Int)=some (.inl (cur,((id,()),()),(i:Int),(xs.length:Int),())):=hl;rw[Mk];dsimp only[oB,oL];have c1:eY (i:Int) (ae cur) cur=true:=by unfold eY jS cl ae;rw[amk (by omega),amk (by omega),amk (by omega)];try rfl
   have c0:(nI ([],0,0,()) cur (i:Int))=cur.take i++List.replicate (cur.length-i) ([],0,0,()):=by unfold nI UW;simp
   have c3:Wy (nI d192 cur (i:Int)) (i:Int)=cur.take i:=by
    show Wy (nI ([],0,0,()) cur (i:Int)) (i:Int)=_;rw[c0];unfold Wy;have:(cur.take i).length=i:=by rw[am9];omega
    simp only[ano];rw[aoi (by omega),anU (by omega)]
   have c2:eY 0 (i:Int) (nI d192 cur (i:Int))=true:=by show eY 0 (i:Int) (nI ([],0,0,()) cur (i:Int))=true;rw[c0];exact kC (by simp;omega)
   rw[c1];dsimp only[oT];rw[c2,c3,i3,aoH];try rfl
theorem DN(xs:List aP)(id:S8)(hs:xs.length<=1048576):D6 xs id=zR (xs.filter (cj id)):=by have bo:=bl;unfold D6 DW;rw[jl (by omega)];dsimp only[oT,oB];rw[DV xs id hs];try rfl
def nw(h x:aP):Bool:=BX x.1 h.1
theorem FK{h x:aP}(hl:nw h x=true):cj h.1 x=true:=by
 unfold nw BX at hl;unfold cj bF;by_cases e:x.1=h.1
 . rw[e,Hb]at hl;simp at hl
 . simp[e]
def jW(xs:List aP)(h:aP):List aP:=xs.takeWhile (nw h)++h::(xs.dropWhile (nw h)).filter (cj h.1)
def eW(xs:List aP)(h:aP):List aP×Bool:=cond (di xs) (cond (di (jW xs h)) (jW xs h,true) ([],false)) ([],false)
theorem x3{h:aP}:∀ {xs:List aP},(xs.Pairwise fun a b=>BX a.1 b.1=true)->(xs.filter (cj h.1)).takeWhile (nw h)=xs.takeWhile (nw h)/\(xs.filter (cj h.1)).dropWhile (nw h)=(xs.dropWhile (nw h)).filter (cj h.1)
 | [],_=>⟨rfl,rfl⟩
 | x::r,hp=>by
   obtain⟨h1,h2⟩:=List.pairwise_cons.1 hp;cases hx:nw h x with
   | true=>obtain⟨i1,i2⟩:=x3 h2;rw[ana,if_pos (FK hx),anG,anG,anV,anV,hx];simp only[if_true];exact⟨by rw[i1],i2⟩
   | false=>
     have BO:∀ y∈(x::r).filter (cj h.1),nw h y=false:=fun y hy=>by
      rcases ams.1 (anw.1 hy).1 with e | e
      . subst e;exact hx
      . cases hyl:nw h y with
        | false=>rfl
        | true=>have:=uh _ _ _ (h1 y e) hyl;unfold nw BX at hx;rw[this]at hx;simp at hx
     have hF:∀ F:List aP,(∀ y∈F,nw h y=false)->F.takeWhile (nw h)=[]/\F.dropWhile (nw h)=F:=fun F hF=>by
      cases F with
      | nil=>exact⟨rfl,rfl⟩
      | cons y F=>rw[anG,anV,hF y (amD ..)];exact⟨rfl,rfl⟩
     obtain⟨f1,f2⟩:=hF _ BO;rw[f1,f2,anG,anV,hx];exact⟨rfl,rfl⟩
def kb(h x:aP)(a:List aP×Bool):List aP×Bool:=((cond (cond (!a.2) (!nw h x) false) (a.1++[h]) a.1)++(cond (cj h.1 x) [x] []),cond (cond (!a.2) (!nw h x) false) true a.2)
theorem Gz{h:aP}:∀(xs:List aP) (out:List aP),xs.foldl (fun a x=>kb h x a) (out,true)=(out++xs.filter (cj h.1),true)
 | [],out=>by simp
 | x::r,out=>by rw[anb,ana];have:kb h x (out,true)=(out++(cond (cj h.1 x) [x] []),true):=rfl;rw[this,Gz r];cases cj h.1 x <;> simp
theorem Gs{h:aP}:∀(xs:List aP) (out:List aP),xs.foldl (fun a x=>kb h x a) (out,false)=(if xs.all (nw h)then (out++xs,false)else (out++jW xs h,true))
 | [],out=>by simp
 | x::r,out=>by
   rw[anb,anc];cases hx:nw h x with
   | true=>
     have:kb h x (out,false)=(out++[x],false):=by unfold kb;simp only[hx,FK hx];try rfl
     rw[this,Gs r];have hp:jW (x::r) h=x::jW r h:=by unfold jW;rw[anG,anV,hx];try rfl
     rw[hp];simp only[aoh,amH,aoe]
   | false=>
     have:kb h x (out,false)=(out++[h]++(cond (cj h.1 x) [x] []),true):=by unfold kb;simp only[hx];try rfl
     rw[this,Gz];have hp:jW (x::r) h=h::(x::r).filter (cj h.1):=by unfold jW;rw[anG,anV,hx];try rfl
     rw[hp,ana];cases cj h.1 x <;> simp
theorem Rk{h:aP}{xs:List aP}(ha:xs.all (nw h)=true):jW xs h=xs++[h]:=by
 have:=amB.1 ha;have e1:∀ ys:List aP,(∀ y∈ys,nw h y=true)->ys.takeWhile (nw h)=ys/\ys.dropWhile (nw h)=[]:=by
  intro ys;induction ys with
  | nil=>intro _;exact⟨rfl,rfl⟩
  | cons y ys ih=>
    intro hy;obtain⟨i1,i2⟩:=ih fun z hz=>hy z (amy _ hz)
    rw[anG,anV,hy y (amD ..)];exact⟨by simp[i1],by simp[i2]⟩
 obtain⟨f1,f2⟩:=e1 xs this;unfold jW;rw[f1,f2];try rfl
theorem Lw(xs:List aP)(h:aP):(jW xs h).length<=xs.length+1:=by
 unfold jW;have h1:=am8 (cj h.1) (xs.dropWhile (nw h));have h2:(xs.takeWhile (nw h)).length+(xs.dropWhile (nw h)).length=xs.length:=by rw[<- amj,ao0]
 simp only[amj,amw];omega
theorem WI{xs:List aP}{h y:aP}(hy:y∈jW xs h):y=h∨y∈xs:=by
 unfold jW at hy;rcases anE.1 hy with hy | hy
 . exact .inr ((List.takeWhile_prefix _).subset hy)
 . rcases ams.1 hy with hy | hy
   . exact .inl hy
   . exact .inr ((List.dropWhile_suffix _).subset (anw.1 hy).1)
theorem Zj{xs:List aP}{h:aP}(hb:tN xs)(hl:xs.length<=1048576)(hh:h.1.length<=bQ):tN (jW xs h):=by
 have bo:=bl;refine⟨by have:=Lw xs h;omega,fun y hy=>?_⟩;rcases WI hy with e | e
 . rw[e];exact hh
 . exact hb.2 y e
theorem Z8(xs:List aP)(h:aP)(hb:tN xs)(hl:xs.length<=1048576)(hh:h.1.length<=bQ):Q0 xs h=some ((),(((eW xs h).1,()),((eW xs h).2,()),())):=by
 have bo:=bl;unfold Q0 eW;rw[Ee xs hb];dsimp only[oB];cases hm:di xs with
 | false=>rfl
 | true=>
   have hl4:=o8 hm;simp only[oT,oN,oF];have hp:=Ee (jW xs h) (Zj hb hl hh);have h':=aO (step:=Fo sM) xs (fun i (a:List aP×Bool)=>(a.1,a.2,xs,ae xs,((i:Nat):Int),h,())) (fun _ x a=>Sum.inl (kb h x a)) (fun a=> .inl (a.1,a.2,xs,ae xs,(xs.length:Int),h,())) (fun i a=>a.1.length<=2 * i) (a0:=([],false)) (oR _) (fun i x a hx ha=>by
    have aV:=ah hx;show sM a.1 a.2 xs (ae xs) (i:Int) h=_;have e:∀(o:List aP) (y:aP),o.length<=100->bk 32 o [y]=true:=fun o y ho=>amq (by simp;omega)
    have e1:=e a.1 h (by omega);have e2:=e a.1 x (by omega);have e3:=e (fE a.1 [h]) x (by unfold fE;simp;omega);unfold sM kb;rw[aL hx,aD hx,aU (by omega)];dsimp only[oT];have eg:gt d192 xs (i:Int)=x:=aM _ hx;rw[eg];have q1:nw h x=BX x.1 h.1:=rfl;have q2:cj h.1 x= !bF x.1 h.1:=rfl;rw[q1,q2,e1,e2,e3];cases a.2 <;> cases BX x.1 h.1 <;> cases bF x.1 h.1 <;> simp[fE]) (fun i x a a' hx ha hf=>by
    simp only[amx]at hf;rw[<- hf];unfold kb;cases(cond (!a.2) (!nw h x) false) <;> cases cj h.1 x <;> simp <;> omega) (fun a ha=>by
    show sM a.1 a.2 xs (ae xs) (xs.length:Int) h=_;unfold sM;rw[aA rfl];try rfl)
   rw[bS (fun x a=>kb h x a),Gs]at h';have h'':S6 [] false xs (ae xs) 0 h=_:=h';rw[h''];by_cases ha:xs.all (nw h)=true
   . rw[if_pos ha];simp only[oB,oL,an5,oM,oT];have e1:bk 32 xs [h]=true:=amq (by simp;omega);have e2:fE xs [h]=jW xs h:=(Rk ha).symm;rw[e1,e2,hp];simp only[oT,oB];cases di (jW xs h) <;> rfl
   . rw[if_neg ha];simp only[oB,oL,an5,oN,oF];rw[hp];simp only[oB];cases di (jW xs h) <;> rfl
theorem S7{α Y:Type}(p:α->Bool)(y:Nat->Y):∀(xs:List α) (i n:Nat),n=i+xs.length->kO (fun i x (_:Unit)=>bif p x then Sum.inl ()else .inr (y i)) (fun _=>y n) i xs ()=y (i+(xs.takeWhile p).length)
 | [],i,n,h=>by simp at h;subst h;simp[kO]
 | x::r,i,n,h=>by
   rw[kO,anG];cases hp:p x with
   | true=>simp only[oT,if_true];rw[S7 p y r (i+1) n (by simp only[amw]at h;omega)];congr 1;simp only[amw];omega
   | false=>simp
theorem Ls{α:Type}(p:α->Bool):∀(xs:List α),xs.take (xs.takeWhile p).length=xs.takeWhile p/\xs.drop (xs.takeWhile p).length=xs.dropWhile p
 | []=>⟨rfl,rfl⟩
 | x::r=>by
   rw[anG,anV];cases hp:p x with
   | true=>obtain⟨h1,h2⟩:=Ls p r;simp only[if_true,amw,ao8,List.drop_succ_cons];exact⟨by rw[h1],h2⟩
   | false=>exact⟨rfl,rfl⟩
theorem Zn(xs:List aP)(h:aP)(hb:tN xs)(hl:xs.length<=1048576)(hh:h.1.length<=bQ):Q4 xs h=some ((),(((eW xs h).1,()),((eW xs h).2,()),())):=by
 have bo:=bl;unfold Q4 eW;rw[DC xs hb,DN xs h.1 hl];dsimp only[oB];cases hm:di xs with
 | false=>rfl
 | true=>
   have hl4:=o8 hm;simp only[oT,oN,oF];have hp:=DC (jW xs h) (Zj hb hl hh);obtain⟨s1,s2⟩:=x3 (h:=h) (rU hm);have hFl:=am8 (cj h.1) xs;generalize hF:xs.filter (cj h.1)=F at s1 s2 hFl;obtain⟨t1,t2⟩:=Ls (nw h) F;have Fw:(F.takeWhile (nw h)).length<=F.length:=(List.takeWhile_prefix _).length_le;have h':=aT (step:=fJ tF) F (fun i (_:Unit)=>(F,((i:Nat):Int),h,())) (fun i x _=>bif nw h x then Sum.inl ()else .inr (.inl (F,((i:Nat):Int),h,()))) (fun _=> .inl (F,(F.length:Int),h,())) (a0:=()) (fun i x a hx=>by
    have aV:=ah hx;show tF F (i:Int) h=_;have eg:gt d192 F (i:Int)=x:=aM _ hx;have q1:nw h x=BX x.1 h.1:=rfl;unfold tF;rw[aL hx,aD hx,aU (by omega),eg,q1];dsimp only[oT];cases BX x.1 h.1 <;> rfl) (fun a=>by
    show tF F (F.length:Int) h=_;unfold tF;rw[aA rfl];try rfl)
   rw[S7 (nw h) (fun i=>Sum.inl (F,((i:Nat):Int),h,())) F 0 F.length (by omega),amt]at h';have h'':Qr F 0 h=_:=h';rw[h''];simp only[oB,oL];have hi:WZ F ((F.takeWhile (nw h)).length:Int) [h]=zR (jW xs h):=by unfold WZ TK;have e1:cl 0 ((F.takeWhile (nw h)).length:Int)=true:=amk (Int.natCast_nonneg _);have e2:cl ((F.takeWhile (nw h)).length:Int) (F.length:Int)=true:=amk (by omega);have e3:Nat.ble ((F.length+[h].length) * 32) bQ=true:=amq (by simp;omega);rw[e1,e2,e3];simp only[Bool.and_self,oT,ano];rw[t1,t2,s1,s2];unfold jW;simp
   rw[hi];simp only[oB];rw[hp];simp only[oB];cases di (jW xs h) <;> rfl
theorem IU(xs:List aP)(id:S8)(hs:xs.length<=1048576):Jr xs id=zR (xs.filter (cj id)):=by
 have bo:=bl;unfold Jr;have h:=aO (step:=pY sa) xs (fun i (a:List aP)=>(id,a,xs,ae xs,((i:Nat):Int),())) (fun _ x a=>Sum.inl (bif cj id x then a++[x]else a)) (fun a=> .inl (id,a,xs,ae xs,(xs.length:Int),())) (fun i a=>a.length<=i) (a0:=[]) (oR _) (fun i x a hx ha=>by
  have aV:=ah hx;show sa id a xs (ae xs) (i:Int)=_;unfold sa cj;have e:∀ y:aP,bk 32 a [y]=true:=fun y=>amq (by simp;omega)
  rw[aL hx,aD hx,aM _ hx];dsimp only[oT,oB];rw[e,aU (by omega)];cases bF x.1 id <;> rfl) (fun i x a a' hx ha hf=>by
  simp only[amx]at hf;rw[<- hf];cases cj id x with
  | true=>simp;omega
  | false=>simp;omega) (fun a ha=>by
  show sa id a xs (ae xs) (xs.length:Int)=_;unfold sa;rw[aA rfl];try rfl)
 rw[sQ]at h;have h':Qd id [] xs (ae xs) 0=_:=h;rw[h'];try rfl
def lP(a:ax)(id:S8)(bJ nA now:Int):ax×Int:=
 cond (cond (bp a) (cond (bh now) (bm id) false) false)
  (cond (de bJ 1 9007199254740992)
    (cond (cond (!de nA 1 9999) true (aE 1000000000 (ak .i64 now nA))) (aK,4)
      (cond (cl 0 (az (aC a now).2.2.2.2.2.1 id)) (aK,6)
        (cond (aj (ae (aC a now).2.2.2.2.2.1) 4) (aK,10)
          (cond (aj (ik (aC a now) bJ now) 0)
            (((aC a now).1,(aC a now).2.1,(aC a now).2.2.1,(aC a now).2.2.2.1,(aC a now).2.2.2.2.1,
              (eW (aC a now).2.2.2.2.2.1 (id,bJ,ak .i64 now nA,())).1,
              (dv (dt (aC a now)) now bJ).1,(dv (dt (aC a now)) now bJ).2.1,(dv (dt (aC a now)) now bJ).2.2.1,(dv (dt (aC a now)) now bJ).2.2.2.1,(aC a now).2.2.2.2.2.2.2.2.2.2.1,()),0)
            (aK,ik (aC a now) bJ now)))))
    (aK,4))
  (aK,1)
theorem abN(a:ax)(id:S8)(bJ nA now:Int)(hb:bK a)(hi:id.length<=1048576):VT a id bJ nA now=some ((),((lP a id bJ nA now).1,((lP a id bJ nA now).2,()),())):=by
 have eD:=dR now hb;unfold VT Ab lP;rw[mL a hb,iQ,mA id (cg hi),oP,oP,ni a now hb];dsimp only[oB];generalize aC a now=s at eD ⊢;have h1:Ix (s.2.2.2.2.2.2.1,s.2.2.2.2.2.2.2.1,s.2.2.2.2.2.2.2.2.1,s.2.2.2.2.2.2.2.2.2.1,()) now bJ=_:=CA (dt s) now bJ eD.2.2.1;rw[ob _ id eD.2.1.1,Q5 s bJ now eD,Z8 _ (id,bJ,ak .i64 now nA,()) eD.hs eD.2.1.1 (cg hi)];dsimp only[oB];rw[h1];cases bp a <;> first | rfl | skip
 cases bh now <;> first | rfl | skip
 cases bm id <;> first | rfl | skip
 cases de bJ 1 9007199254740992 <;> first | rfl | skip
 dsimp only[oT,oF,oN,oB];cases(cond (!de nA 1 9999) true (aE 1000000000 (ak .i64 now nA))) <;> first | rfl | skip
 dsimp only[oT,oF,oN,oB];cases cl 0 (az s.2.2.2.2.2.1 id) <;> first | rfl | skip
 cases aj (ae s.2.2.2.2.2.1) 4 <;> first | rfl | skip
 dsimp only[oT,oF,oN,oB];cases aj (ik s bJ now) 0 <;> rfl
theorem acA(a:ax)(id:S8)(bJ nA now:Int)(hb:bK a)(hi:id.length<=1048576):Qj a id bJ nA now=some ((),((lP a id bJ nA now).1,((lP a id bJ nA now).2,()),())):=by
 have eD:=dR now hb;unfold Qj vy lP;rw[nD a hb,iM,mF id (cg hi),lv,lv,nx a now hb];dsimp only[oB];generalize aC a now=s at eD ⊢;have h1:Es (s.2.2.2.2.2.2.1,s.2.2.2.2.2.2.2.1,s.2.2.2.2.2.2.2.2.1,s.2.2.2.2.2.2.2.2.2.1,()) now bJ=_:=CW (dt s) now bJ eD.2.2.1;have h2:=iY s.2.2.2.2.2.1 id eD.2.1.1;have h3:=TG s bJ now eD;have h4:=Zn s.2.2.2.2.2.1 (id,bJ,ak .i64 now nA,()) eD.hs eD.2.1.1 (cg hi);cases bp a <;> first | rfl | skip
 cases bh now <;> first | rfl | skip
 have Mu:aj 0 0=true:=rfl;simp only[oT,oF,oN,oM,oB,Mu];cases bm id <;> first | rfl | skip
 cases de bJ 1 9007199254740992 <;> first | rfl | skip
 simp only[oT,oF,oN,oM,oB];cases(cond (!de nA 1 9999) true (aE 1000000000 (ak .i64 now nA))) <;> first | rfl | skip
 simp only[oT,oF,oN,oM,oB];rw[h2,h3,h4];dsimp only[oB];rw[h1];cases cl 0 (az s.2.2.2.2.2.1 id) <;> first | rfl | skip
 cases aj (ae s.2.2.2.2.2.1) 4 <;> first | rfl | skip
 dsimp only[oT,oF,oN,oB];cases aj (ik s bJ now) 0 <;> rfl
def JK(a:ax)(l:List aP):ax:=(a.1,a.2.1,a.2.2.1,a.2.2.2.1,a.2.2.2.2.1,l,a.2.2.2.2.2.2.1,a.2.2.2.2.2.2.2.1,a.2.2.2.2.2.2.2.2.1,a.2.2.2.2.2.2.2.2.2.1,a.2.2.2.2.2.2.2.2.2.2.1,())
def pZ:aP:=([],0,0,())
def gu(a b:ax)(id:S8)(now:Int):ax×ax×Int:=
 cond (cond (bp a) (cond (bh now) (bm id) false) false)
  (cond (bp b)
    (cond (bF a.1 b.1) (aK,aK,4)
      (cond (aE (az (aC a now).2.2.2.2.2.1 id) 0) (aK,aK,5)
        (cond (cl 0 (az (aC b now).2.2.2.2.2.1 id)) (aK,aK,6)
          (cond (aj (ae (aC b now).2.2.2.2.2.1) 4) (aK,aK,10)
            (cond (aE (hY (aC b now) now) (gt pZ (aC a now).2.2.2.2.2.1 (az (aC a now).2.2.2.2.2.1 id)).2.1) (aK,aK,7)
              (JK (aC a now) ((aC a now).2.2.2.2.2.1.filter (cj id)),JK (aC b now) (eW (aC b now).2.2.2.2.2.1 (gt pZ (aC a now).2.2.2.2.2.1 (az (aC a now).2.2.2.2.2.1 id))).1,0))))))
    (aK,aK,1))
  (aK,aK,1)
theorem Hz{xs:List aP}{k:Int}(hb:∀ y∈xs,y.1.length<=1048576):(gt pZ xs k).1.length<=1048576:=by
 unfold gt;rw[ank];cases h:xs[k.toNat]? with
 | none=>exact amv _
 | some y=>exact hb y (amo h)
theorem ac0(a b:ax)(id:S8)(now:Int)(hb:bK a)(hc:bK b)(hi:id.length<=1048576):RK a b id now=some ((),((gu a b id now).1,((gu a b id now).2.1,((gu a b id now).2.2,()),()))):=by
 have eD:=dR now hb;have Ig:=dR now hc;unfold RK Ab gu;rw[mL a hb,iQ,mA id (cg hi),mL b hc,ni a now hb,ni b now hc];dsimp only[oB];generalize aC a now=s at eD ⊢;generalize aC b now=t at Ig ⊢;rw[ob _ id eD.2.1.1,ob _ id Ig.2.1.1,Iv t now Ig,IU _ id eD.2.1.1];dsimp only[oB];have hgt:∀ k:Int,gt d192 s.2.2.2.2.2.1 k=gt pZ s.2.2.2.2.2.1 k:=fun _=>rfl
 rw[hgt,Z8 _ _ Ig.hs Ig.2.1.1 (cg (Hz eD.2.1.2))];dsimp only[oB];cases bp a <;> first | rfl | skip
 cases bh now <;> first | rfl | skip
 cases bm id <;> first | rfl | skip
 cases bp b <;> first | rfl | skip
 cases bF a.1 b.1 <;> first | rfl | skip
 by_cases ln:az s.2.2.2.2.2.1 id<0
 . rw[aR ln];try rfl
 . rw[aF ln,jP ln];cases cl 0 (az t.2.2.2.2.2.1 id) <;> first | rfl | skip
   cases aj (ae t.2.2.2.2.2.1) 4 <;> first | rfl | skip
   dsimp only[oT,oF,oN,oB];cases aE (hY t now) (gt pZ s.2.2.2.2.2.1 (az s.2.2.2.2.2.1 id)).2.1 <;> rfl
theorem adm(a b:ax)(id:S8)(now:Int)(hb:bK a)(hc:bK b)(hi:id.length<=1048576):NQ a b id now=some ((),((gu a b id now).1,((gu a b id now).2.1,((gu a b id now).2.2,()),()))):=by
 have eD:=dR now hb;have Ig:=dR now hc;unfold NQ vy gu;rw[nD a hb,iM,mF id (cg hi),nD b hc,nx a now hb,nx b now hc];dsimp only[oB];generalize aC a now=s at eD ⊢;generalize aC b now=t at Ig ⊢;have h0:=iY [] id (by decide);have h1:=iY s.2.2.2.2.2.1 id eD.2.1.1;have h2:=iY t.2.2.2.2.2.1 id Ig.2.1.1;have h3:=IC t now Ig;have h4:=DN s.2.2.2.2.2.1 id eD.2.1.1;have hgt:∀ k:Int,gt d192 s.2.2.2.2.2.1 k=gt pZ s.2.2.2.2.2.1 k:=fun _=>rfl
 have h5:=Zn t.2.2.2.2.2.1 (gt pZ s.2.2.2.2.2.1 (az s.2.2.2.2.2.1 id)) Ig.hs Ig.2.1.1 (cg (Hz eD.2.1.2));have Mu:aj 0 0=true:=rfl;have e10:aj 1 0=false:=rfl;cases bp a with
 | false=>simp only[oT,oF,oN,oM,oB,Mu,e10];cases bp b <;> cases bh now <;> (simp only[oT,oF,oN,oM,oB,h0];try rfl)
 | true=>
 cases bh now with
 | false=>cases bp b <;> (simp only[oT,oF,oN,oM,oB,h0];try rfl)
 | true=>
 cases bp b with
 | false=>simp only[oT,oF,oN,oM,oB,h1,Mu,e10];cases bm id <;> rfl
 | true=>
 simp only[oT,oF,oN,oM,oB,h1,h2,h3,h4,Mu,e10,hgt,h5];cases bm id <;> first | rfl | skip
 cases bF a.1 b.1 <;> first | rfl | skip
 by_cases ln:az s.2.2.2.2.2.1 id<0
 . rw[aR ln];try rfl
 . rw[aF ln,jP ln];cases cl 0 (az t.2.2.2.2.2.1 id) <;> first | rfl | skip
   cases aj (ae t.2.2.2.2.2.1) 4 <;> first | rfl | skip
   simp only[oT,oF,oN,oM,oB];cases aE (hY t now) (gt pZ s.2.2.2.2.2.1 (az s.2.2.2.2.2.1 id)).2.1 <;> rfl
theorem agv(d:Nat)(h:d<=9):strOf [(dC .u8 (ak .i64 48 (d:Int)),())]=[UInt8.ofNat (48+d)]:=by
 rw[bd (by omega) (by omega)];have:dC .u8 (48+(d:Int))=48+(d:Int):=by unfold dC;rw[IntKind.wrap_u8];omega
 rw[this];show [UInt8.ofNat (Int.toNat (48+(d:Int)))]=_;rw[show Int.toNat (48+(d:Int))=48+d by omega]
theorem nf{s t:S8}(h:s.length+t.length<=bQ):jx s t=true:=amq h
theorem Vo{u:Nat}(h:u<18446744073709551616):(Lib.decDigits u).length<=20:=by rw[Lib.decDigits_length];exact Lib.nDigits_le20 u h
theorem LF:∀(f u:Nat) (s:S8),u<=f->u<=4611686018427387904->(Lib.decDigits u).length+s.length<=40->∃(u':Nat) (s':S8),Pt (u:Int) s=some (.inl ((u':Int),s',()))/\u'<=9/\UInt8.ofNat (48+u')::s'=Lib.decDigits u++s
 | 0,u,s,hf,hm,hl=>by
   refine⟨u,s,dK _ ?_,by omega,?_⟩
   . show qN (u:Int) s=_;unfold qN;rw[aF (by omega)];try rfl
   . rw[Lib.decDigits,dif_pos (by omega)];try rfl
 | f+1,u,s,hf,hm,hl=>by
   by_cases hu:u<10
   . refine⟨u,s,dK _ ?_,by omega,?_⟩
     . show qN (u:Int) s=_;unfold qN;rw[aF (by omega)];try rfl
     . rw[Lib.decDigits,dif_pos hu];try rfl
   . have hd:Lib.decDigits u=Lib.decDigits (u / 10)++[UInt8.ofNat (48+u % 10)]:=by rw[Lib.decDigits,dif_neg hu]
     have bo:=bl;have Mp:(Lib.decDigits (u / 10)).length+(UInt8.ofNat (48+u % 10)::s).length<=40:=by rw[hd,amj]at hl;simp only[amw,am3]at hl ⊢;omega
     obtain⟨u',s',h1,h2,h3⟩:=LF f (u / 10) (UInt8.ofNat (48+u % 10)::s) (by omega) (by omega) Mp;refine⟨u',s',ez _ (x':=(((u / 10:Nat):Int),UInt8.ofNat (48+u % 10)::s,())) ?_ h1,h2,by rw[h3,hd,amH];try rfl⟩;show qN (u:Int) s=_;unfold qN;have hr:eH (u:Int) 10=((u % 10:Nat):Int):=by unfold eH;rw[anB (by omega)];omega
     have hq:kr .i64 (u:Int) 10=((u / 10:Nat):Int):=by unfold kr;rw[anS (by omega),IntKind.wrap_i64];omega
     rw[aR (by omega),hr,hq,agv _ (by omega)];dsimp only[oT];rw[nf (by simp only[amw,am3];omega)];try rfl
def acz(n:Int):S8:=cond (bY n) (Lib.itoa n) []
theorem agV(n:Int):WK n=zR (acz n):=by
 have bo:=bl;unfold WK acz;rw[pJ];dsimp only[oB];cases hm:bY n with
 | false=>rfl
 | true=>have hb:=bB.1 hm;obtain⟨u,rfl⟩:∃ u:Nat,n=u:=⟨n.toNat,by omega⟩;have hlen:=Vo (u:=u) (by omega);obtain⟨u',s',h1,h2,h3⟩:=LF u u [] (oR _) (by omega) (by simp only[am3];omega);refine(bn h1).trans ?_;show cond (jx (strOf [(dC .u8 (ak .i64 48 (u':Int)),())]) s') (zR (uz (strOf [(dC .u8 (ak .i64 48 (u':Int)),())]) s')) none=_;rw[agv _ h2];have hl:=amP List.length h3;simp only[amw,amZ]at hl h3;rw[nf (by simp only[amw,am3];omega)];rw[Lib.itoa_nonneg,<- h3];try rfl
theorem EH(x:UInt8):∀ n:Nat,Lib.repeatL [x] n=List.replicate n x
 | 0=>rfl
 | n+1=>by rw[Lib.repeatL,EH x n];try rfl
def eu(n w:Int):S8:=cond (bY n&&de w 1 18&&cl (ae (Lib.itoa n)) w) (List.replicate (w-ae (Lib.itoa n)).toNat 48++Lib.itoa n) []
theorem GW(w:Nat)(hw:w<=18):∀(d:Nat) (s:S8),s.length+d=w->S4 (w:Int) s=some (.inl ((w:Int),List.replicate d 48++s,()))
 | 0,s,h=>by refine dK _ ?_;show wB (w:Int) s=_;unfold wB;rw[aF (by unfold ae;omega)];try rfl
 | d+1,s,h=>by
   have bo:=bl;have ih:=GW w hw d (48::s) (by simp only[amw];omega);have e:List.replicate (d+1) (48:UInt8)++s=List.replicate d 48++(48::s):=by rw[List.replicate_succ',amH];try rfl
   rw[e];refine ez _ (x':=((w:Int),48::s,())) ?_ ih;show wB (w:Int) s=_;unfold wB;rw[aR (by unfold ae;omega),nf (by simp only[amw,am3];omega)];try rfl
theorem QV{n:Int}(h:0<=n):1<=(Lib.itoa n).length:=by obtain⟨u,rfl⟩:∃ u:Nat,n=u:=⟨n.toNat,by omega⟩;rw[Lib.itoa_nonneg,Lib.decDigits_length];exact Lib.nDigits_pos u
theorem IJ(n w:Int):Nu n w=zR (eu n w):=by
 unfold Nu eu;rw[agV];dsimp only[oB];unfold acz;cases hm:bY n with
 | false=>rfl
 | true=>
   have hb:=bB.1 hm;have hp:=QV hb.1;have he:bF (Lib.itoa n) []=false:=by
    cases hi:Lib.itoa n with
    | nil=>rw[hi]at hp;simp at hp
    | cons x r=>rfl
   rw[oT,he];dsimp only[oF,Bool.true_and];by_cases h1:w<1
   . rw[aR h1,show de w 1 18=false by unfold de cl;rw[amF (by omega)];try rfl];try rfl
   . by_cases h2:18<w
     . rw[aF h1,aR h2,show de w 1 18=false by unfold de cl;rw[amk (show(1:Int)<=w by omega),amF (by omega)];try rfl];try rfl
     . rw[aF h1,aF h2,bB.2 ⟨by omega,by omega⟩];dsimp only[oF,Bool.true_and];by_cases h3:w<ae (Lib.itoa n)
       . rw[aR h3,show cl (ae (Lib.itoa n)) w=false from amF (by omega)];try rfl
       . rw[aF h3,show cl (ae (Lib.itoa n)) w=true from amk (by omega)];obtain⟨W,rfl⟩:∃ W:Nat,w=W:=⟨w.toNat,by omega⟩;have h3:(Lib.itoa n).length<=W:=by unfold ae at h3;omega
         have:=GW W (by omega) (W-(Lib.itoa n).length) (Lib.itoa n) (by omega);dsimp only[oF,oT];rw[this];dsimp only[oB,oL];rw[show((W:Int)-ae (Lib.itoa n)).toNat=W-(Lib.itoa n).length by unfold ae;omega];try rfl
theorem SG{n:Int}(h:4611686018427387904<n)(h2:n<=9223372036854775807):(Lib.itoa n).length=19:=by obtain⟨u,rfl⟩:∃ u:Nat,n=u:=⟨n.toNat,by omega⟩;rw[Lib.itoa_nonneg,Lib.decDigits_length];exact Lib.nDigits_unique 18 u (by omega) (by omega)
theorem IE(n w:Int)(hn : -9223372036854775808<=n/\n<=9223372036854775807):Nj n w=zR (eu n w):=by
 have bo:=bl;unfold Nj abB Me eu;dsimp only[oB];rw[lv];by_cases h0:n<0
 . rw[aR h0,show bY n=false by unfold bY de cl;rw[amF (by omega)];try rfl];try rfl
 rw[aF h0];dsimp only[oF,oB];cases hw:de w 1 18 with
 | false=>rw[Bool.and_false];try rfl
 | true=>
   have hwb:=bB.1 hw;rw[aoY];by_cases h3:w<ae (Lib.itoa n)
   . rw[aR h3,show cl (ae (Lib.itoa n)) w=false from amF (by omega),Bool.and_false];try rfl
   . have hm:bY n=true:=by
      by_cases hh:4611686018427387904<n
      . have:=SG hh hn.2;unfold ae at h3;omega
      . exact bB.2 ⟨by omega,by omega⟩
     have hlen:(Lib.itoa n).length<=18:=by unfold ae at h3;omega
     rw[aF h3,hm,show cl (ae (Lib.itoa n)) w=true from amk (by omega)];have hs:bf .i64 w (ae (Lib.itoa n))=w-ae (Lib.itoa n):=bG (by unfold ae;omega) (by unfold ae;omega);rw[hs];unfold IP ru;rw[show cl 0 (w-ae (Lib.itoa n))=true from amk (by omega),show Nat.ble (([48]:S8).length * (w-ae (Lib.itoa n)).toNat) bQ=true from amq (by simp only[amw,am3];unfold ae;omega)];show cond (jx (Lib.repeatL [48] (w-ae (Lib.itoa n)).toNat) (Lib.itoa n)) (zR (uz (Lib.repeatL [48] (w-ae (Lib.itoa n)).toNat) (Lib.itoa n))) none=_;rw[EH,nf (by simp only[anr];unfold ae;omega)];try rfl
theorem jR(n w:Int):(eu n w).length<=18:=by
 unfold eu;cases hc:bY n&&de w 1 18&&cl (ae (Lib.itoa n)) w with
 | false=>simp
 | true=>simp only[ami]at hc;have h1:=bB.1 hc.1.2;have h2:ae (Lib.itoa n)<=w:=anf hc.2;simp only[oT,amj,anr];unfold ae at h2 ⊢;omega
theorem Sm{a b x:Int}(h0:0<=a)(h:a<=b)(hb:b<=4611686018427387904):fk a x<=fk b x:=by
 have hx:=iB x;generalize yf:ee x=c at hx;have e1:ee a=a:=by unfold ee;rw[if_neg (by omega),if_neg (by omega)]
 have e2:ee b=b:=by unfold ee;rw[if_neg (by omega),if_neg (by omega)]
 unfold fk;rw[e1,e2,yf];split <;> split <;> omega
theorem acv{a x:Int}(h0:0<=a)(hb:a<=4611686018427387904):a<=fk a x:=by
 have:=iB x;have e1:ee a=a:=by unfold ee;rw[if_neg (by omega),if_neg (by omega)]
 unfold fk;rw[e1];split <;> omega
theorem fold_filter(p:aP->Bool):∀(xs:List aP) (a b:Int),0<=a->a<=b->b<=4611686018427387904->(xs.filter p).foldl (fun a h=>fk a h.2.1) a<=xs.foldl (fun a h=>fk a h.2.1) b
 | [],_,_,_,h,_=>h
 | x::r,a,b,h0,h,hb=>by
   have e1:=yy b x.2.1;have e2:=yy a x.2.1;have e3:=Sm (x:=x.2.1) h0 h hb;have e4:=acv (x:=x.2.1) (show 0<=b by omega) hb;rw[ana];split
   . exact fold_filter p r _ _ e2.1 e3 e1.2
   . exact fold_filter p r a (fk b x.2.1) h0 (by omega) e1.2
theorem wg:∀(xs:List aP) (a:Int),0<=a->a<=4611686018427387904->0<=xs.foldl (fun a h=>fk a h.2.1) a/\xs.foldl (fun a h=>fk a h.2.1) a<=4611686018427387904
 | [],_,h0,h=>⟨h0,h⟩
 | x::r,a,h0,h=>wg r _ (yy a x.2.1).1 (yy a x.2.1).2
theorem Nx{a x y:Int}(h0:0<=x)(h:x<=y)(hb:y<=4611686018427387904):fk a x<=fk a y:=by
 have:=iB a;have e1:ee x=x:=by unfold ee;rw[if_neg (by omega),if_neg (by omega)]
 have e2:ee y=y:=by unfold ee;rw[if_neg (by omega),if_neg (by omega)]
 unfold fk;rw[e1,e2];split <;> split <;> omega
theorem GF{a:ax}(now:Int)(h:bp a=true):bp (aC a now)=true:=by
 unfold aC;rw[h];cases bh now with
 | false=>exact h
 | true=>
   simp only[oT];unfold bp at h ⊢;revert h;cases ft a.1 <;> first | exact fun h=>h | skip
   cases de a.2.1 0 9007199254740992 <;> first | exact fun h=>h | skip
   cases de a.2.2.2.1 0 1000 <;> first | exact fun h=>h | skip
   cases de a.2.2.2.2.1 0 9007199254740992 <;> first | exact fun h=>h | skip
   cases bY a.2.2.1 <;> first | exact fun h=>h | skip
   simp only[oT];cases hh:di a.2.2.2.2.2.1 with
   | false=>intro h;simp at h
   | true=>
     rw[B8 _ hh];simp only[oT];have hr:dt (a.1,a.2.1,a.2.2.1,a.2.2.2.1,a.2.2.2.2.1,a.2.2.2.2.2.1.filter (gD now),a.2.2.2.2.2.2.1,a.2.2.2.2.2.2.2.1,a.2.2.2.2.2.2.2.2.1,a.2.2.2.2.2.2.2.2.2.1,a.2.2.2.2.2.2.2.2.2.2.1,())=dt a:=rfl;rw[hr];cases gU (dt a) <;> first | exact fun h=>h | skip
     cases eG a.2.2.2.2.2.2.2.2.2.2.1 <;> first | exact fun h=>h | skip
     simp only[oT];intro h;have h1:fk a.2.2.1 (uS a.2.2.2.2.2.1)<=a.2.1:=anf h;have h2:=fold_filter (gD now) a.2.2.2.2.2.1 0 0 (Int.le_refl _) (Int.le_refl _) (by decide);have h3:=wg a.2.2.2.2.2.1 0 (Int.le_refl _) (by decide);have h4:=wg (a.2.2.2.2.2.1.filter (gD now)) 0 (Int.le_refl _) (by decide);exact amk (Int.le_trans (Nx h4.1 h2 h3.2) h1)
theorem IV{a:ax}(now:Int)(h:bp a=true):hY (aC a now) now=hY a now:=by
 have h2:=GF now h;unfold hY;rw[h2,h];unfold aC;rw[h];cases bh now with
 | false=>rfl
 | true=>simp only[oT];unfold vl;rw[List.filter_filter];simp only[Bool.and_self]
theorem EU(a:ax)(now:Int):(aC a now).2.2.1=a.2.2.1:=by
 unfold aC;cases bp a <;> first | rfl | skip
 cases bh now <;> rfl
def wG(a:ax)(now:Int):S8×Int:=cond (bp a) (cond (bh now) ((eu (hY a now) 16++[32])++eu a.2.2.1 16,0) ([],1)) ([],1)
theorem aev(a:ax)(now:Int)(hb:bK a):XZ a now=some ((),((wG a now).1,()),((wG a now).2,()),()):=by
 have bo:=bl;have w1:=jR (hY a now) 16;have w2:=jR a.2.2.1 16;unfold XZ wG;rw[mL a hb,iQ,Iv a now hb];dsimp only[oB];rw[IJ,IJ];cases bp a <;> first | rfl | skip
 cases bh now <;> first | rfl | skip
 dsimp only[oB,oN,oF,oT,uz];rw[nf (by simp only[amw,am3];omega),nf (by simp only[amj,amw,am3];omega)];try rfl
theorem SQ(a:ax)(now:Int) : -9223372036854775808<=hY a now/\hY a now<=9223372036854775807:=by
 unfold hY;have z:(-9223372036854775808:Int)<=0/\(0:Int)<=9223372036854775807:=by decide
 cases bp a <;> first | exact z | skip
 cases bh now <;> first | exact z | skip
 have e:∀ x:Int,-9223372036854775808<=IntKind.i64.wrap x/\IntKind.i64.wrap x<=9223372036854775807:=fun x=>by rw[IntKind.wrap_i64];omega
 exact e _
theorem N7{a:ax}(ha:bp a=true) : -9223372036854775808<=a.2.2.1/\a.2.2.1<=9223372036854775807:=by
 unfold bp at ha;cases hm:bY a.2.2.1 with
 | true=>have:=bB.1 hm;omega
 | false=>rw[hm]at ha;revert ha;cases ft a.1 <;> cases de a.2.1 0 9007199254740992 <;> cases de a.2.2.2.1 0 1000 <;> cases de a.2.2.2.2.1 0 9007199254740992 <;> simp
theorem Li(a:ax)(now:Int)(hb:bK a):vy a now=cond (bp a) (cond (bh now) (some ((),(aC a now,((0,()),())))) (some ((),(([],0,0,0,0,[],0,0,[],[],[],()),((1,()),()))))) (some ((),(([],0,0,0,0,[],0,0,[],[],[],()),((1,()),())))):=by
 unfold vy;rw[nD a hb,iM,nx a now hb];dsimp only[oB];cases bp a <;> first | rfl | skip
 cases bh now <;> rfl
theorem agM(a:ax)(now:Int)(hb:bK a):RY a now=some ((),((wG a now).1,()),((wG a now).2,()),()):=by
 have bo:=bl;have w1:=jR (hY a now) 16;have w2:=jR a.2.2.1 16;have OY:=Li a now hb;unfold RY wG;cases ha:bp a with
 | false=>rw[ha]at OY;rw[OY];try rfl
 | true=>
 cases ht:bh now with
 | false=>rw[ha,ht]at OY;rw[OY];try rfl
 | true=>
 rw[ha,ht]at OY;rw[OY];have hr:=IC (aC a now) now (dR now hb);rw[IV now ha]at hr;have h0:aj 0 0=true:=rfl;have hw:=IE _ 16 (SQ a now);have hw2:=IE _ 16 (N7 ha);dsimp only[oT,oB];rw[h0,hr,EU];dsimp only[oT,oF,oB,oN];rw[hw,hw2];dsimp only[oB,oN,oF,oT,uz];rw[nf (by simp only[amw,am3];omega),nf (by simp only[amj,amw,am3];omega)];try rfl
def XL(h:Nat)(c:UInt8):Nat:=((h ^^^ c.toNat) * 16777619) % 4294967296
def ajE(s:S8):Nat:=s.foldl XL 2166136261
def VA(s:S8)(n:Int):Int:=cond (aE n 1) 0 (eH ((ajE s:Nat):Int) n)
def jk(xs:List ax)(i:Nat)(x:ax):Bool:=cond (bp x) (cond (decide (0<i)) (BX (gt ([],0,0,0,0,[],0,0,[],[],[],()) xs ((i:Int)-1)).1 x.1) true) false
def jh(b:List ax):Bool:=cond (allI (jk b) 0 b) (cl (ae b) 6) false
def dE(b:List ax):Prop:=b.length<=1048576/\∀ a∈b,bK a
theorem TL(b:List ax)(hb:dE b):g44 (b,())=zR (jh b):=by
 have bo:=bl;have hl:=hb.1;unfold g44;have h:=aT (step:=ep AB) b (fun i (_:Unit)=>(b,ae b,((i:Nat):Int),(b,()),())) (fun i x _=>bif jk b i x then Sum.inl ()else .inr (.inr (false,()))) (fun _=> .inl (b,ae b,(b.length:Int),(b,()),())) (a0:=()) (fun i x a hx=>by
  have aV:=ah hx;show AB b (ae b) (i:Int) (b,())=_;unfold AB jk;rw[aL hx,aD hx,aM _ hx];dsimp only[oT];rw[mL x (hb.2 x (amo hx)),aU (by omega)];dsimp only[oB];cases bp x with
  | false=>rfl
  | true=>
    by_cases h0:0<i
    . rw[aR (show(0:Int)<i by omega),bG (by omega) (by omega),oA hx h0];dsimp only[oT,oF,oN];have e:gt d94 b ((i:Int)-1)=gt ([],0,0,0,0,[],0,0,[],[],[],()) b ((i:Int)-1):=rfl;rw[e,amk h0];cases BX (gt ([],0,0,0,0,[],0,0,[],[],[],()) b ((i:Int)-1)).1 x.1 <;> rfl
    . rw[aF (show ¬ (0:Int)<i by omega),amF h0];try rfl) (fun a=>by
  show AB b (ae b) (b.length:Int) (b,())=_;unfold AB;rw[aA rfl];try rfl)
 rw[kj]at h;have h':Zl b (ae b) 0 (b,())=_:=h;dsimp only;rw[h'];unfold jh;cases allI (jk b) 0 b <;> rfl
theorem Tg(b:List ax)(hb:dE b):g56 (b,())=zR (jh b):=by
 have bo:=bl;have hl:=hb.1;unfold g56;have h:=aT (step:=ep BD) b (fun i (_:Unit)=>(b,ae b,((i:Nat):Int),(b,()),())) (fun i x _=>bif jk b i x then Sum.inl ()else .inr (.inr (false,()))) (fun _=> .inl (b,ae b,(b.length:Int),(b,()),())) (a0:=()) (fun i x a hx=>by
  have aV:=ah hx;show BD b (ae b) (i:Int) (b,())=_;unfold BD jk;rw[aL hx,aD hx,aM _ hx];dsimp only[oT];rw[nD x (hb.2 x (amo hx)),aU (by omega)];dsimp only[oB];cases bp x with
  | false=>rfl
  | true=>
    by_cases h0:0<i
    . rw[aR (show(0:Int)<i by omega),bG (by omega) (by omega),oA hx h0];dsimp only[oT,oF,oN];rw[Lc];have e:gt d94 b ((i:Int)-1)=gt ([],0,0,0,0,[],0,0,[],[],[],()) b ((i:Int)-1):=rfl;rw[e,amk h0];cases BX (gt ([],0,0,0,0,[],0,0,[],[],[],()) b ((i:Int)-1)).1 x.1 <;> rfl
    . rw[aF (show ¬ (0:Int)<i by omega),amF h0];try rfl) (fun a=>by
  show BD b (ae b) (b.length:Int) (b,())=_;unfold BD;rw[aA rfl];try rfl)
 rw[kj]at h;have h':Zd b (ae b) 0 (b,())=_:=h;dsimp only;rw[h'];unfold jh;cases allI (jk b) 0 b <;> rfl
abbrev V9:=Int×List ax×Unit
def sp(n:Nat)(m:Int)(b:List ax):List V9:=(List.range n).map fun(k:Nat)=>((-1:Int),b.filter (fun a=>aj (VA a.1 m) (k:Int)),())
def ar(xs:List ax)(id:S8):Int:=dM (fun y=>bF y.1 id) 0 xs
theorem Bf(xs:List ax)(id:S8)(hs:xs.length<=1048576):g51 (xs,()) id=zR (ar xs id):=by
 have bo:=bl;unfold g51 ar;have h:=aT (step:=ep zv) xs (fun i (_:Unit)=>(id,xs,ae xs,((i:Nat):Int),())) (fun i y _=>bif bF y.1 id then Sum.inr (.inr ((i:Int),()))else Sum.inl ()) (fun _=> .inl (id,xs,ae xs,(xs.length:Int),())) (a0:=()) (fun i y u hy=>by
  have aV:=ah hy;show zv id xs (ae xs) (i:Int)=_;unfold zv;rw[aL hy,aD hy,aM _ hy,aU (by omega)];dsimp only[oT];cases bF y.1 id <;> rfl) (fun u=>by
  show zv id xs (ae xs) (xs.length:Int)=_;unfold zv;rw[aA rfl];try rfl)
 have h':YS id xs (ae xs) 0=_:=h;rw[h'];have hf:=ij (Y:=Sum (S8×(List ax)×Int×Int×Unit) (Int×Unit)) (fun(y:ax)=>bF y.1 id) (fun n=> .inr (n,())) (.inl (id,xs,ae xs,(xs.length:Int),())) (fun y=>match y with | .inl _=> -1 | .inr z=>z.1) (fun _=>rfl) rfl xs 0;rw[<- hf];dsimp only[oB];cases kO _ _ 0 xs () <;> rfl
theorem Aj(xs:List ax)(id:S8)(hs:xs.length<=1048576):g65 (xs,()) id=zR (ar xs id):=by
 have bo:=bl;unfold g65 acB ar;have h:=aT (step:=ep sf) xs (fun i (_:Unit)=>(xs,((id,()),()),ae xs,((i:Nat):Int),())) (fun i y _=>bif bF y.1 id then Sum.inr (.inr ((i:Int),()))else Sum.inl ()) (fun _=> .inl (xs,((id,()),()),ae xs,(xs.length:Int),())) (a0:=()) (fun i y u hy=>by
  have aV:=ah hy;show sf xs ((id,()),()) (ae xs) (i:Int)=_;unfold sf ac7;rw[aL hy,aD hy,aM _ hy,aU (by omega)];dsimp only[oT,oB];cases bF y.1 id <;> rfl) (fun u=>by
  show sf xs ((id,()),()) (ae xs) (xs.length:Int)=_;unfold sf;rw[aA rfl];try rfl)
 have h':RT xs ((id,()),()) (ae xs) 0=_:=h;rw[h'];have hf:=ij (Y:=Sum ((List ax)×(R9×Unit)×Int×Int×Unit) (Int×Unit)) (fun(y:ax)=>bF y.1 id) (fun n=> .inr (n,())) (.inl (xs,((id,()),()),ae xs,(xs.length:Int),())) (fun y=>match y with | .inl _=> -1 | .inr z=>z.1) (fun _=>rfl) rfl xs 0;rw[<- hf];dsimp only[oB];cases kO _ _ 0 xs () <;> rfl
theorem A8(xs:List ax)(hb:dE xs):g41 (xs,())=zR xs:=by
 have bo:=bl;have hs:=hb.1;unfold g41;have h:=aO (step:=pY Af) xs (fun i (a:List ax)=>(xs,ae xs,((i:Nat):Int),([],()),(a,()),())) (fun _ x a=>Sum.inl (a++[x])) (fun a=> .inl (xs,ae xs,(xs.length:Int),([],()),(a,()),())) (fun i a=>a.length=i) (a0:=[]) rfl (fun i x a hx ha=>by
  have aV:=ah hx;have hm:=hb.2 x (amo hx);show Af xs (ae xs) (i:Int) ([],()) (a,())=_;unfold Af;have e:∀ y:ax,bk 160 a [y]=true:=fun y=>amq (by simp;omega)
  have e0:gt d94 xs (i:Int)=x:=aM _ hx;rw[aL hx,aD hx,e0];dsimp only[oT];rw[oz x hm];dsimp only[oB];rw[e,aU (by omega)];try rfl) (fun i x a a' hx ha hf=>by
  simp only[amx]at hf;rw[<- hf,amj,ha];try rfl) (fun a ha=>by
  show Af xs (ae xs) (xs.length:Int) ([],()) (a,())=_;unfold Af;rw[aA rfl];try rfl)
 rw[mh]at h;have h':Z7 xs (ae xs) 0 ([],()) ([],())=_:=h;rw[h'];try rfl
theorem AN(xs:List ax)(hb:dE xs):J6 (xs,())=zR xs:=by
 have bo:=bl;have hs:=hb.1;unfold J6 adG;have h:=aO (step:=Fo tY) xs (fun i (a:List ax)=>((),xs,ae xs,((i:Nat):Int),([],()),(a,()),())) (fun _ x a=>Sum.inl (a++[x])) (fun a=> .inl ((),xs,ae xs,(xs.length:Int),([],()),(a,()),())) (fun i a=>a.length=i) (a0:=[]) rfl (fun i x a hx ha=>by
  have aV:=ah hx;have hm:=hb.2 x (amo hx);show tY () xs (ae xs) (i:Int) ([],()) (a,())=_;unfold tY;have e:∀ y:ax,bk 160 a [y]=true:=fun y=>amq (by simp;omega)
  have e0:gt d94 xs (i:Int)=x:=aM _ hx;rw[aL hx,aD hx,e0];dsimp only[oT];rw[F5 x hm];dsimp only[oB];rw[e,aU (by omega)];try rfl) (fun i x a a' hx ha hf=>by
  simp only[amx]at hf;rw[<- hf,amj,ha];try rfl) (fun a ha=>by
  show tY () xs (ae xs) (xs.length:Int) ([],()) (a,())=_;unfold tY;rw[aA rfl];try rfl)
 rw[mh]at h;have h':QH () xs (ae xs) 0 ([],()) ([],())=_:=h;rw[h'];try rfl
abbrev fx:=Int×S8×S8×S8×S8×S8×Int×Int×Unit
theorem J5(xs:List (Int×Unit))(v:Int)(hs:xs.length<=1048576):WR xs v=zR (cl 0 (dM (fun y=>aj v y.1) 0 xs)):=by
 have bo:=bl;unfold WR abo;have h:=aT (step:=ep sD) xs (fun i (_:Unit)=>(xs,v,ae xs,((i:Nat):Int),())) (fun i y _=>bif aj v y.1 then Sum.inr (.inr ((i:Int),()))else Sum.inl ()) (fun _=> .inl (xs,v,ae xs,(xs.length:Int),())) (a0:=()) (fun i y u hy=>by
  have aV:=ah hy;show sD xs v (ae xs) (i:Int)=_;unfold sD;rw[aL hy,aD hy,aM _ hy,aU (by omega)];dsimp only[oT];cases aj v y.1 <;> rfl) (fun u=>by
  show sD xs v (ae xs) (xs.length:Int)=_;unfold sD;rw[aA rfl];try rfl)
 have h':T1 xs v (ae xs) 0=_:=h;rw[h'];have hf:=ij (Y:=Sum ((List (Int×Unit))×Int×Int×Int×Unit) (Int×Unit)) (fun(y:Int×Unit)=>aj v y.1) (fun n=> .inr (n,())) (.inl (xs,v,ae xs,(xs.length:Int),())) (fun y=>match y with | .inl _=> -1 | .inr z=>z.1) (fun _=>rfl) rfl xs 0;rw[<- hf];dsimp only[oB];cases kO _ _ 0 xs () <;> rfl
def QG(op:Int):S8:=gt ([],()) [([],()),([48,49,48,48],()),([48,49,48,48],()),([48,50,50,48],()),([48,50,50,48],()),([48,50,50,48],()),([48,50,48,48],()),([48,49,48,48],()),([48,50,48,48],())] op |>.1
def kZ(q:fx):Bool:=de q.1 1 8&&bF q.2.2.2.2.2.1 (QG q.1)&&ft q.2.1&&aH q.2.2.2.2.1&&aj (ae q.2.2.2.2.1) 6&&(cond (aE q.1 7) (bm q.2.2.2.1) (bF q.2.2.2.1 []))&&(cond (aE q.1 5) (de q.2.2.2.2.2.2.1 0 999999999999) (aj q.2.2.2.2.2.2.1 0))&&(cond (aj q.1 1) (de q.2.2.2.2.2.2.2.1 0 9999) (aj q.2.2.2.2.2.2.2.1 0))&&(cond (aj q.1 6) (ft q.2.2.1) (bF q.2.2.1 []))
def E2(q:fx):Prop:=q.2.1.length<=1048576/\q.2.2.1.length<=1048576/\q.2.2.2.1.length<=1048576/\q.2.2.2.2.1.length<=1048576/\q.2.2.2.2.2.1.length<=1048576
theorem qa{op:Int}(h:de op 1 8=true):op=1∨op=2∨op=3∨op=4∨op=5∨op=6∨op=7∨op=8:=by have:=bB.1 h;omega
theorem aaq(q:fx)(hb:E2 q):Cj q=zR (kZ q):=by
 obtain⟨op,acct,other,hold,trace,ed,bJ,nA,_⟩:=q;obtain⟨b1,b2,b3,b4,b5⟩:=hb;cases fD:de op 1 8 with
 | false=>unfold Cj HS kZ;rw[oP,fD];try rfl
 | true=>
   have k1:=Bq acct (cg b1);have k2:=Bq other (cg b2);have k3:=mA hold (cg b3);have k4:=gh trace (cg b4);have k5:HS op=zR true:=by unfold HS;rw[oP,fD];try rfl
   have k6:OM op=zR (QG op):=by unfold OM;rw[k5];rcases qa fD with h | h | h | h | h | h | h | h <;> subst h <;> rfl
   have k7:g91 op=zR (aE op 7):=by unfold g91;rw[k5];try rfl
   have k8:g93 op=zR (aE op 5):=by unfold g93;rw[oP];rcases qa fD with h | h | h | h | h | h | h | h <;> subst h <;> rfl
   have k9:=oP bJ 0 999999999999;have k10:=oP nA 0 9999;unfold Cj kZ;dsimp only;rw[k5,k6,k1,k4,k7,k8,k3,k9,k10,k2];dsimp only[oB];rw[fD];cases bF ed (QG op) <;> first | rfl | skip
   cases ft acct <;> first | rfl | skip
   cases aH trace <;> first | rfl | skip
   cases aj (ae trace) 6 <;> first | rfl | skip
   cases aE op 7 <;> cases bm hold <;> cases bF hold [] <;> first | rfl | skip
   all_goals (cases aE op 5 <;> cases de bJ 0 999999999999 <;> cases aj bJ 0 <;> first | rfl | skip)
   all_goals (cases aj op 1 <;> cases de nA 0 9999 <;> cases aj nA 0 <;> first | rfl | skip)
   all_goals (cases aj op 6 <;> cases ft other <;> rfl)
theorem ac1{op:Int}(fD:de op 1 8=true):nF op 38=zR (aE op 7)/\nF op 4=zR (aE op 5)/\nF op 14=zR (aj op 1)/\nF op 103=zR (aj op 6):=by unfold nF EB;rw[lv,fD];rcases qa fD with h | h | h | h | h | h | h | h <;> subst h <;> refine⟨?_,?_,?_,?_⟩ <;> (refine(amP (fun z=>Option.bind z fun y2=>some ((),(y2.2.1,()))) (J5 _ _ ?_)).trans ?_) <;> first | rfl | decide
theorem acw{op:Int}(fD:de op 1 8=true):∃(nm:S8×S8) (fs:List (Int×Unit)),EB op=some ((),((QG op,nm.1,nm.2,fs,()),()))/\bF nm.2 []=false:=by unfold EB;rw[lv,fD];rcases qa fD with h | h | h | h | h | h | h | h <;> subst h <;> exact⟨(_,_),_,rfl,rfl⟩
theorem Zw(q:fx)(hb:E2 q):NP q=zR (kZ q):=by
 obtain⟨op,acct,other,hold,trace,ed,bJ,nA,_⟩:=q;obtain⟨b1,b2,b3,b4,b5⟩:=hb;cases fD:de op 1 8 with
 | false=>unfold NP EB kZ;rw[lv,fD];try rfl
 | true=>
   have k1:=AM acct (cg b1);have k2:=AM other (cg b2);have k3:=mF hold (cg b3);have k4:yi trace 6=zR (cond (aH trace) (aj (ae trace) 6) false):=by unfold yi;rw[jm trace (cg b4)];try rfl
   obtain⟨nm,fs,k5,k6⟩:=acw fD;obtain⟨u1,u2,u3,u4⟩:=ac1 fD;have k9:=lv bJ 0 999999999999;have k10:=lv nA 0 9999;unfold NP kZ;dsimp only;rw[k5,k1,k4,u1,u2,u3,u4,k3,k9,k10,k2];dsimp only[oB];rw[fD,k6];cases bF ed (QG op) <;> first | rfl | skip
   cases ft acct <;> first | rfl | skip
   cases aH trace <;> first | rfl | skip
   cases aj (ae trace) 6 <;> first | rfl | skip
   cases aE op 7 <;> cases bm hold <;> cases bF hold [] <;> cases aE op 5 <;> cases de bJ 0 999999999999 <;> cases aj bJ 0 <;> cases aj op 1 <;> cases de nA 0 9999 <;> cases aj nA 0 <;> cases aj op 6 <;> cases ft other <;> cases bF other [] <;> rfl
def LX(a:ax)(p:Int)(l:List aP):ax:=(a.1,a.2.1,p,a.2.2.2.1,a.2.2.2.2.1,l,a.2.2.2.2.2.2.1,a.2.2.2.2.2.2.2.1,a.2.2.2.2.2.2.2.2.1,a.2.2.2.2.2.2.2.2.2.1,a.2.2.2.2.2.2.2.2.2.2.1,())
def pq(a:ax)(id:S8)(bJ:Int)(last:Bool)(now:Int):ax×Int:=
 cond (cond (bp a) (cond (bh now) (bm id) false) false)
  (cond (de bJ 1 9007199254740992)
    (cond (aE (az (aC a now).2.2.2.2.2.1 id) 0) (aK,5)
      (cond (aE (gt pZ (aC a now).2.2.2.2.2.1 (az (aC a now).2.2.2.2.2.1 id)).2.1 bJ) (aK,7)
        (cond (cond last true (aj bJ (gt pZ (aC a now).2.2.2.2.2.1 (az (aC a now).2.2.2.2.2.1 id)).2.1))
          (LX (aC a now) (ak .i64 (aC a now).2.2.1 bJ) ((aC a now).2.2.2.2.2.1.filter (cj id)),0)
          (LX (aC a now) (ak .i64 (aC a now).2.2.1 bJ) (cZ (aC a now).2.2.2.2.2.1 (az (aC a now).2.2.2.2.2.1 id) ((gt pZ (aC a now).2.2.2.2.2.1 (az (aC a now).2.2.2.2.2.1 id)).1,bf .i64 (gt pZ (aC a now).2.2.2.2.2.1 (az (aC a now).2.2.2.2.2.1 id)).2.1 bJ,(gt pZ (aC a now).2.2.2.2.2.1 (az (aC a now).2.2.2.2.2.1 id)).2.2.1,())),0))))
    (aK,4))
  (aK,1)
theorem aft(a:ax)(id:S8)(bJ:Int)(last:Bool)(now:Int)(hb:bK a)(hi:id.length<=1048576):Qp a id bJ last now=some ((),((pq a id bJ last now).1,((pq a id bJ last now).2,()),())):=by
 have eD:=dR now hb;unfold Qp Ab pq;rw[mL a hb,iQ,mA id (cg hi),oP,ni a now hb];dsimp only[oB];generalize aC a now=s at eD ⊢;rw[ob _ id eD.2.1.1,IU _ id eD.2.1.1];dsimp only[oB];cases bp a <;> first | rfl | skip
 cases bh now <;> first | rfl | skip
 cases bm id <;> first | rfl | skip
 cases de bJ 1 9007199254740992 <;> first | rfl | skip
 dsimp only[oT,oF,oN,oB];by_cases ln:az s.2.2.2.2.2.1 id<0
 . rw[aR ln];try rfl
 . rw[aF ln,jP ln];dsimp only[oT,oF];have eh:gt d192 s.2.2.2.2.2.1 (az s.2.2.2.2.2.1 id)=gt pZ s.2.2.2.2.2.1 (az s.2.2.2.2.2.1 id):=rfl;rw[eh];cases aE (gt pZ s.2.2.2.2.2.1 (az s.2.2.2.2.2.1 id)).2.1 bJ <;> first | rfl | skip
   cases last <;> first | rfl | skip
   cases aj bJ (gt pZ s.2.2.2.2.2.1 (az s.2.2.2.2.2.1 id)).2.1 <;> rfl
theorem Jo{xs:List aP}{id:S8}(h:¬ az xs id<0):∃(i:Nat) (y:aP),az xs id=(i:Int)/\xs[i]? = some y/\y.1=id:=by
 have cY:dM (fun(y:aP)=>bF y.1 id) 0 xs ≠ -1:=fun e=>by unfold az at h;rw[e]at h;omega
 obtain⟨i,y,h1,h2,h3,_⟩:=mo _ _ _ cY;refine⟨i,y,by unfold az;rw[h1,amt],h2,by simpa[bF]using h3⟩
theorem BI{id:S8}:∀(xs:List aP) (i:Nat) (y z:aP),xs[i]? = some y->y.1=id->z.1=id->(xs.set i z).filter (cj id)=xs.filter (cj id)
 | [],i,y,z,h,_,_=>by simp at h
 | x::r,0,y,z,h,h1,h2=>by
   simp only[amn,amh]at h;subst h;have e1:cj id x=false:=by unfold cj bF;rw[h1];simp
   have e2:cj id z=false:=by unfold cj bF;rw[h2];simp
   rw[List.set_cons_zero,ana,ana,e1,e2];try rfl
 | x::r,i+1,y,z,h,h1,h2=>by rw[apb,ana,ana,BI r i y z (by simpa using h) h1 h2]
theorem af4(a:ax)(id:S8)(bJ:Int)(last:Bool)(now:Int)(hb:bK a)(hi:id.length<=1048576):JT a id bJ last now=some ((),((pq a id bJ last now).1,((pq a id bJ last now).2,()),())):=by
 have eD:=dR now hb;have Fk:=fun h=>GF (a:=a) now h
 unfold JT IH vy pq;rw[nD a hb,iM,mF id (cg hi),lv,nx a now hb];dsimp only[oB];generalize aC a now=s at eD Fk ⊢;have h2:=iY s.2.2.2.2.2.1 id eD.2.1.1;have h0:=iY [] id (by decide);cases hac:bp a with
 | false=>simp only[oT,oF,oN,oM,oB];rw[h0];try rfl
 | true=>
 cases bh now with
 | false=>simp only[oT,oF,oN,oM,oB];rw[h0];try rfl
 | true=>
 simp only[oT,oF,oN,oM,oB];rw[h2];dsimp only[oB];cases bm id with
 | false=>rfl
 | true=>
 cases ham:de bJ 1 9007199254740992 with
 | false=>rfl
 | true=>
 by_cases ln:az s.2.2.2.2.2.1 id<0
 . rw[aR ln];try rfl
 . have Mu:aj 0 0=true:=rfl;rw[aF ln,Mu];simp only[oT,oF,oN,oM,oB];have kL:=jP ln;obtain⟨i,y,q1,q2,q3⟩:=Jo ln;have eh:gt d192 s.2.2.2.2.2.1 (az s.2.2.2.2.2.1 id)=y:=by rw[q1];exact aM _ q2
   have eh2:gt pZ s.2.2.2.2.2.1 (az s.2.2.2.2.2.1 id)=y:=by rw[q1];exact aM _ q2
   have hyb:1<=y.2.1/\y.2.1<=9007199254740992:=by
    have hs:=Fk hac;have hh:di s.2.2.2.2.2.1=true:=by
     unfold bp at hs;cases hm:di s.2.2.2.2.2.1 with
     | true=>rfl
     | false=>rw[hm]at hs;revert hs;cases ft s.1 <;> cases de s.2.1 0 9007199254740992 <;> cases de s.2.2.2.1 0 1000 <;> cases de s.2.2.2.2.1 0 9007199254740992 <;> cases bY s.2.2.1 <;> simp
    have hm:=s9 hh y (amo q2);unfold mH at hm;cases Ud:de y.2.1 1 9007199254740992 with
    | true=>exact bB.1 Ud
    | false=>rw[Ud]at hm;revert hm;cases bm y.1 <;> simp
   have amf:=bB.1 ham;rw[eh,eh2,kL];simp only[oT,oF];by_cases aV:y.2.1<bJ
   . rw[aR aV];try rfl
   . rw[aF aV];simp only[oT,oF];have Ur:bf .i64 y.2.1 bJ=y.2.1-bJ:=bG (by omega) (by omega);have mS:cZ s.2.2.2.2.2.1 (az s.2.2.2.2.2.1 id) (y.1,bf .i64 y.2.1 bJ,y.2.2.1,())=s.2.2.2.2.2.1.set i (y.1,bf .i64 y.2.1 bJ,y.2.2.1,()):=by
      rw[q1];try rfl
     have Dp:=ah q2;have lF:(s.2.2.2.2.2.1.set i (y.1,bf .i64 y.2.1 bJ,y.2.2.1,()))[i]? = some (y.1,bf .i64 y.2.1 bJ,y.2.2.1,()):=by rw[aoX Dp]
     have al4:aX (az s.2.2.2.2.2.1 id) (cZ s.2.2.2.2.2.1 (az s.2.2.2.2.2.1 id) (y.1,bf .i64 y.2.1 bJ,y.2.2.1,()))=true:=by rw[mS,q1];exact aD lF
     have Pb:gt d192 (cZ s.2.2.2.2.2.1 (az s.2.2.2.2.2.1 id) (y.1,bf .i64 y.2.1 bJ,y.2.2.1,())) (az s.2.2.2.2.2.1 id)=(y.1,bf .i64 y.2.1 bJ,y.2.2.1,()):=by rw[mS,q1];exact aM _ lF
     have H2:D6 (cZ s.2.2.2.2.2.1 (az s.2.2.2.2.2.1 id) (y.1,bf .i64 y.2.1 bJ,y.2.2.1,())) id=zR (s.2.2.2.2.2.1.filter (cj id)):=by rw[mS,DN _ id (by rw[ans];exact eD.2.1.1),BI _ i y (y.1,bf .i64 y.2.1 bJ,y.2.2.1,()) q2 q3 q3]
     have hz:aj (bf .i64 y.2.1 bJ) 0=aj bJ y.2.1:=by
      rw[Ur];by_cases e:bJ=y.2.1
      . rw[bt.2 e,bt.2 (by omega)]
      . rw[wD e,wD (by omega)]
     rw[Mu,al4,Pb];simp only[oT,oF,oN];rw[H2,hz];cases aj bJ y.2.1 <;> cases last <;> rfl
def lO(a:ax)(id:S8)(now:Int):ax×Int:=
 cond (cond (bp a) (cond (bh now) (bm id) false) false)
  (cond (aE (az (aC a now).2.2.2.2.2.1 id) 0) (aK,5)
    (LX (aC a now) (aC a now).2.2.1 ((aC a now).2.2.2.2.2.1.filter (cj id)),0))
  (aK,1)
theorem adr(a:ax)(id:S8)(now:Int)(hb:bK a)(hi:id.length<=1048576):Wn a id now=some ((),((lO a id now).1,((lO a id now).2,()),())):=by
 have eD:=dR now hb;unfold Wn Ab lO;rw[mL a hb,iQ,mA id (cg hi),ni a now hb];dsimp only[oB];generalize aC a now=s at eD ⊢;rw[ob _ id eD.2.1.1,IU _ id eD.2.1.1];dsimp only[oB];cases bp a <;> first | rfl | skip
 cases bh now <;> first | rfl | skip
 cases bm id <;> first | rfl | skip
 dsimp only[oT,oF,oN,oB];cases aE (az s.2.2.2.2.2.1 id) 0 <;> rfl
theorem acL(a:ax)(id:S8)(now:Int)(hb:bK a)(hi:id.length<=1048576):RS a id now=some ((),((lO a id now).1,((lO a id now).2,()),())):=by
 have eD:=dR now hb;unfold RS IH vy lO;rw[nD a hb,iM,mF id (cg hi),lv,nx a now hb];dsimp only[oB];generalize aC a now=s at eD ⊢;have h2:=iY s.2.2.2.2.2.1 id eD.2.1.1;have h3:=DN s.2.2.2.2.2.1 id eD.2.1.1;have h0:=iY [] id (by decide);have e1:de 1 1 9007199254740992=true:=rfl;cases bp a with
 | false=>simp only[oT,oF,oN,oM,oB];rw[h0];try rfl
 | true=>
 cases bh now with
 | false=>simp only[oT,oF,oN,oM,oB];rw[h0];try rfl
 | true=>
 simp only[oT,oF,oN,oM,oB];rw[h2];dsimp only[oB];cases bm id with
 | false=>rfl
 | true=>
 have Mu:aj 0 0=true:=rfl;rw[Mu,e1];simp only[oT,oF,oN,oM,oB];cases aE (az s.2.2.2.2.2.1 id) 0 with
 | true=>rfl
 | false=>simp only[oT,oF,oN,oM,oB];rw[Mu];simp only[oT,oF,oN,oM,oB];rw[h3];try rfl
def iT(a:ax)(now:Int):ax×Int:=cond (bp a) (cond (bh now) (aC a now,0) (aK,1)) (aK,1)
theorem W6(a:ax)(now:Int)(hb:bK a):Wm a now=some ((),((iT a now).1,((iT a now).2,()),())):=by
 unfold Wm iT;rw[mL a hb,iQ,ni a now hb];dsimp only[oB];cases bp a <;> first | rfl | skip
 cases bh now <;> rfl
theorem VK(a:ax)(now:Int)(hb:bK a):QR a now=some ((),((iT a now).1,((iT a now).2,()),())):=by
 unfold QR iT;rw[Li a now hb];cases bp a <;> first | rfl | skip
 cases bh now <;> rfl
theorem eN{b:List ax}{id:S8}(h:¬ ar b id<0):∃(i:Nat) (y:ax),ar b id=(i:Int)/\b[i]? = some y:=by
 have cY:dM (fun(y:ax)=>bF y.1 id) 0 b ≠ -1:=fun e=>by unfold ar at h;rw[e]at h;omega
 obtain⟨i,y,h1,h2,h3,_⟩:=mo _ _ _ cY;exact⟨i,y,by unfold ar;rw[h1,amt],h2⟩
theorem MS{y:aP}(h:mH y=true):y.1.length<=1048576:=by
 unfold mH at h;cases hi:bm y.1 with
 | false=>rw[hi]at h;simp at h
 | true=>
   unfold bm at hi;cases ha:y.1.all kN with
   | false=>rw[ha]at hi;simp at hi
   | true=>rw[ha]at hi;have:=bB.1 (show de (ae y.1) 1 6=true from hi);unfold ae at this;omega
theorem QP(xs:List aP)(h:aP):(eW xs h).1.length<=1048576/\∀ y∈(eW xs h).1,y.1.length<=1048576:=by
 unfold eW;cases di xs with
 | false=>exact⟨amv _,fun y hy=>by simp at hy⟩
 | true=>
   cases hp:di (jW xs h)with
   | false=>exact⟨amv _,fun y hy=>by simp at hy⟩
   | true=>have:=o8 hp;exact⟨by show(jW xs h).length<=_;omega,fun y hy=>MS (s9 hp y hy)⟩
theorem CH{r:gv}(now bJ:Int)(h:kd r):kd (dv r now bJ):=by have:=qM r now bJ;unfold kd at h ⊢;rw[this.1,this.2];exact h
theorem ff:bK aK:=⟨by decide,⟨by decide,fun y hy=>by simp[aK]at hy⟩,⟨by decide,by decide⟩,by decide,fun y hy=>by simp[aK]at hy⟩
theorem acq{a:ax}(id:S8)(bJ nA now:Int)(hb:bK a):bK (lP a id bJ nA now).1:=by
 have eD:=dR now hb;unfold lP;generalize aC a now=s at eD ⊢;have hp:=QP s.2.2.2.2.2.1 (id,bJ,ak .i64 now nA,());have hr:=CH now bJ eD.2.2.1;cases cond (bp a) (cond (bh now) (bm id) false) false <;> first | exact ff | skip
 cases de bJ 1 9007199254740992 <;> first | exact ff | skip
 dsimp only[oT];cases(cond (!de nA 1 9999) true (aE 1000000000 (ak .i64 now nA))) <;> first | exact ff | skip
 cases cl 0 (az s.2.2.2.2.2.1 id) <;> first | exact ff | skip
 cases aj (ae s.2.2.2.2.2.1) 4 <;> first | exact ff | skip
 cases aj (ik s bJ now) 0 <;> first | exact ff | skip
 exact⟨eD.1,hp,hr,eD.2.2.2.1,eD.2.2.2.2⟩
theorem aaz{xs:List aP}{k:Int}{z:aP}(h:xs.length<=1048576/\∀ y∈xs,y.1.length<=1048576)(hz:z.1.length<=1048576):(cZ xs k z).length<=1048576/\∀ y∈cZ xs k z,y.1.length<=1048576:=by
 unfold cZ;refine⟨by rw[ans];exact h.1,fun y hy=>?_⟩;rcases aoL hy with hy | hy
 . exact h.2 y hy
 . rw[hy];exact hz
theorem At{xs:List aP}(p:aP->Bool)(h:xs.length<=1048576/\∀ y∈xs,y.1.length<=1048576):(xs.filter p).length<=1048576/\∀ y∈xs.filter p,y.1.length<=1048576:=
 ⟨amp (am8 _ _) h.1,fun y hy=>h.2 y (anw.1 hy).1⟩
theorem acx{a:ax}(id:S8)(bJ now:Int)(hb:bK a):bK (lM a id bJ now).1:=by
 have eD:=dR now hb;unfold lM;generalize aC a now=s at eD ⊢;have hg:=Hz (k:=az s.2.2.2.2.2.1 id) eD.2.1.2;have hp:=fun v=>aaz (k:=az s.2.2.2.2.2.1 id) (z:=((gt pZ s.2.2.2.2.2.1 (az s.2.2.2.2.2.1 id)).1,v,(gt pZ s.2.2.2.2.2.1 (az s.2.2.2.2.2.1 id)).2.2.1,())) eD.2.1 hg
 have hr:=CH now bJ eD.2.2.1;cases cond (bp a) (cond (bh now) (bm id) false) false <;> first | exact ff | skip
 cases de bJ 1 9007199254740992 <;> first | exact ff | skip
 cases aE (az s.2.2.2.2.2.1 id) 0 <;> first | exact ff | skip
 cases aj (ik s bJ now) 0 <;> first | exact ff | skip
 exact⟨eD.1,hp _,hr,eD.2.2.2.1,eD.2.2.2.2⟩
theorem aaP{a:ax}(id:S8)(bJ:Int)(last:Bool)(now:Int)(hb:bK a):bK (pq a id bJ last now).1:=by
 have eD:=dR now hb;unfold pq;generalize aC a now=s at eD ⊢;have hg:=Hz (k:=az s.2.2.2.2.2.1 id) eD.2.1.2;have hp:=fun v=>aaz (k:=az s.2.2.2.2.2.1 id) (z:=((gt pZ s.2.2.2.2.2.1 (az s.2.2.2.2.2.1 id)).1,v,(gt pZ s.2.2.2.2.2.1 (az s.2.2.2.2.2.1 id)).2.2.1,())) eD.2.1 hg
 have hf:=At (cj id) eD.2.1;cases cond (bp a) (cond (bh now) (bm id) false) false <;> first | exact ff | skip
 cases de bJ 1 9007199254740992 <;> first | exact ff | skip
 cases aE (az s.2.2.2.2.2.1 id) 0 <;> first | exact ff | skip
 cases aE (gt pZ s.2.2.2.2.2.1 (az s.2.2.2.2.2.1 id)).2.1 bJ <;> first | exact ff | skip
 dsimp only[oT,oF];cases(cond last true (aj bJ (gt pZ s.2.2.2.2.2.1 (az s.2.2.2.2.2.1 id)).2.1))
 . exact⟨eD.1,hp _,eD.2.2.1,eD.2.2.2.1,eD.2.2.2.2⟩
 . exact⟨eD.1,hf,eD.2.2.1,eD.2.2.2.1,eD.2.2.2.2⟩
theorem aby{a:ax}(id:S8)(now:Int)(hb:bK a):bK (lO a id now).1:=by
 have eD:=dR now hb;unfold lO;generalize aC a now=s at eD ⊢;have hf:=At (cj id) eD.2.1;cases cond (bp a) (cond (bh now) (bm id) false) false <;> first | exact ff | skip
 cases aE (az s.2.2.2.2.2.1 id) 0 <;> first | exact ff | skip
 exact⟨eD.1,hf,eD.2.2.1,eD.2.2.2.1,eD.2.2.2.2⟩
theorem abJ{a b:ax}(id:S8)(now:Int)(hb:bK a)(hc:bK b):bK (gu a b id now).1/\bK (gu a b id now).2.1:=by
 have eD:=dR now hb;have Ig:=dR now hc;have h00:bK aK/\bK aK:=⟨ff,ff⟩;unfold gu;generalize aC a now=s at eD ⊢;generalize aC b now=t at Ig ⊢;have hf:=At (cj id) eD.2.1;have hp:=QP t.2.2.2.2.2.1 (gt pZ s.2.2.2.2.2.1 (az s.2.2.2.2.2.1 id));cases cond (bp a) (cond (bh now) (bm id) false) false <;> first | exact h00 | skip
 cases bp b <;> first | exact h00 | skip
 cases bF a.1 b.1 <;> first | exact h00 | skip
 cases aE (az s.2.2.2.2.2.1 id) 0 <;> first | exact h00 | skip
 cases cl 0 (az t.2.2.2.2.2.1 id) <;> first | exact h00 | skip
 cases aj (ae t.2.2.2.2.2.1) 4 <;> first | exact h00 | skip
 cases aE (hY t now) (gt pZ s.2.2.2.2.2.1 (az s.2.2.2.2.2.1 id)).2.1 <;> first | exact h00 | skip
 exact⟨⟨eD.1,hf,eD.2.2.1,eD.2.2.2.1,eD.2.2.2.2⟩,⟨Ig.1,hp,Ig.2.2.1,Ig.2.2.2.1,Ig.2.2.2.2⟩⟩
theorem Vy{a:ax}(now:Int)(hb:bK a):bK (iT a now).1:=by
 have eD:=dR now hb;unfold iT;cases bp a <;> first | exact ff | skip
 cases bh now <;> first | exact ff | exact eD
def mQ(a b:ax)(q:fx)(now:Int):ax×ax×Int×S8:=
 cond (aj q.1 1) ((lP a q.2.2.2.1 q.2.2.2.2.2.2.1 q.2.2.2.2.2.2.2.1 now).1,b,(lP a q.2.2.2.1 q.2.2.2.2.2.2.1 q.2.2.2.2.2.2.2.1 now).2,[])
  (cond (aj q.1 2) ((lM a q.2.2.2.1 q.2.2.2.2.2.2.1 now).1,b,(lM a q.2.2.2.1 q.2.2.2.2.2.2.1 now).2,[])
    (cond (aj q.1 3) ((pq a q.2.2.2.1 q.2.2.2.2.2.2.1 (aj q.1 4) now).1,b,(pq a q.2.2.2.1 q.2.2.2.2.2.2.1 (aj q.1 4) now).2,[])
      (cond (aj q.1 4) ((pq a q.2.2.2.1 q.2.2.2.2.2.2.1 (aj q.1 4) now).1,b,(pq a q.2.2.2.1 q.2.2.2.2.2.2.1 (aj q.1 4) now).2,[])
        (cond (aj q.1 5) ((lO a q.2.2.2.1 now).1,b,(lO a q.2.2.2.1 now).2,[])
          (cond (aj q.1 6) ((gu a b q.2.2.2.1 now).1,(gu a b q.2.2.2.1 now).2.1,(gu a b q.2.2.2.1 now).2.2,[])
            (cond (aj q.1 7) (a,b,(wG a now).2,(wG a now).1)
              ((iT a now).1,b,(iT a now).2,[])))))))
theorem aer(a b:ax)(q:fx)(now:Int)(hb:bK a)(hc:bK b)(hi:q.2.2.2.1.length<=1048576):g97 a b q now=some ((),((mQ a b q now).1,(mQ a b q now).2.1,((mQ a b q now).2.2.1,()),((mQ a b q now).2.2.2,()),())):=by
 unfold g97 mQ;rw[abN a _ _ _ now hb hi,ab9 a _ _ now hb hi,aft a _ _ _ now hb hi,adr a _ now hb hi,ac0 a b _ now hb hc hi,aev a now hb,W6 a now hb];cases aj q.1 1 <;> first | rfl | skip
 cases aj q.1 2 <;> first | rfl | skip
 cases aj q.1 3 <;> first | rfl | skip
 cases aj q.1 4 <;> first | rfl | skip
 cases aj q.1 5 <;> first | rfl | skip
 cases aj q.1 6 <;> first | rfl | skip
 cases aj q.1 7 <;> rfl
theorem XX{a b:ax}(q:fx)(now:Int)(hb:bK a)(hc:bK b):bK (mQ a b q now).1/\bK (mQ a b q now).2.1:=by
 unfold mQ;cases aj q.1 1 <;> first | exact⟨acq _ _ _ now hb,hc⟩ | skip
 cases aj q.1 2 <;> first | exact⟨acx _ _ now hb,hc⟩ | skip
 cases aj q.1 3 <;> first | exact⟨aaP _ _ _ now hb,hc⟩ | skip
 cases aj q.1 4 <;> first | exact⟨aaP _ _ _ now hb,hc⟩ | skip
 cases aj q.1 5 <;> first | exact⟨aby _ now hb,hc⟩ | skip
 cases aj q.1 6 <;> first | exact abJ _ now hb hc | skip
 cases aj q.1 7 <;> first | exact⟨hb,hc⟩ | exact⟨Vy now hb,hc⟩
def dm(b:List ax)(q:fx)(now:Int):(List ax)×Int×S8:=
 cond (jh b) (cond (kZ q) (cond (bh now)
  (cond (aj q.1 6)
    (cond (cond (aE (ar b q.2.1) 0) true (aE (ar b q.2.2.1) 0)) ([],3,[])
      (cond (aj (mQ (gt aK b (ar b q.2.1)) (gt aK b (ar b q.2.2.1)) q now).2.2.1 0)
        (cZ (cZ b (ar b q.2.2.1) (mQ (gt aK b (ar b q.2.1)) (gt aK b (ar b q.2.2.1)) q now).2.1) (ar b q.2.1) (mQ (gt aK b (ar b q.2.1)) (gt aK b (ar b q.2.2.1)) q now).1,0,(mQ (gt aK b (ar b q.2.1)) (gt aK b (ar b q.2.2.1)) q now).2.2.2)
        ([],(mQ (gt aK b (ar b q.2.1)) (gt aK b (ar b q.2.2.1)) q now).2.2.1,[])))
    (cond (aE (ar b q.2.1) 0) ([],3,[])
      (cond (aj (mQ (gt aK b (ar b q.2.1)) (gt aK b (ar b q.2.1)) q now).2.2.1 0)
        (cZ b (ar b q.2.1) (mQ (gt aK b (ar b q.2.1)) (gt aK b (ar b q.2.1)) q now).1,0,(mQ (gt aK b (ar b q.2.1)) (gt aK b (ar b q.2.1)) q now).2.2.2)
        ([],(mQ (gt aK b (ar b q.2.1)) (gt aK b (ar b q.2.1)) q now).2.2.1,[]))))
  ([],1,[])) ([],1,[])) ([],1,[])
theorem acV(b:List ax)(q:fx)(now:Int)(hb:dE b)(hq:E2 q):g53 (b,()) q now=some ((),(((dm b q now).1,()),((dm b q now).2.1,()),((dm b q now).2.2,()),())):=by
 have hi:=hq.2.2.1;have a1:=Bf b q.2.1 hb.1;have a2:=Bf b q.2.2.1 hb.1;have a3:=A8 b hb;unfold g53 dm;rw[TL b hb,aaq q hq,iQ,a1,a2];dsimp only[oB];cases jh b <;> first | rfl | skip
 cases kZ q <;> first | rfl | skip
 cases bh now <;> first | rfl | skip
 dsimp only[oT,oF,oN];cases h6:aj q.1 6 with
 | true=>
   dsimp only[oT];by_cases n1:ar b q.2.1<0
   . rw[aR n1];try rfl
   by_cases n2:ar b q.2.2.1<0
   . rw[aF n1,aR n2];try rfl
   obtain⟨i,y,i1,i2⟩:=eN n1;obtain⟨k,z,j1,j2⟩:=eN n2;have hy:=hb.2 y (amo i2);have hz:=hb.2 z (amo j2);have e1:gt d94 b (i:Int)=y:=aM _ i2;have e2:gt d94 b (k:Int)=z:=aM _ j2;have e3:gt aK b (i:Int)=y:=aM _ i2;have e4:gt aK b (k:Int)=z:=aM _ j2;have ho:=aer y z q now hy hz hi;obtain⟨ob1,ob2⟩:=XX (a:=y) (b:=z) q now hy hz;rw[aF n1,aF n2,i1,j1,aD i2,aD j2,e1,e2,e3,e4];generalize mQ y z q now=r at ho ob1 ob2 ⊢;dsimp only[oT,oF];rw[ho];dsimp only[oB];cases aj r.2.2.1 0 with
   | false=>rfl
   | true=>
     dsimp only[oT,oF,oN];rw[a3,oz r.1 ob1,oz r.2.1 ob2];dsimp only[oB];have hlen:(cZ b (k:Int) r.2.1).length=b.length:=by unfold cZ;rw[ans]
     have kL:aX (i:Int) (cZ b (k:Int) r.2.1)=true:=ig (by rw[hlen];exact ah i2);by_cases hk:(k:Int)=(i:Int)
     . rw[bt.2 hk,aD i2];have:cZ (cZ b (k:Int) r.2.1) (i:Int) r.1=cZ b (i:Int) r.1:=by rw[hk];unfold cZ;exact List.set_set ..
       rw[this];try rfl
     . rw[wD hk,aD j2,kL];try rfl
 | false=>
   dsimp only[oF];by_cases n1:ar b q.2.1<0
   . rw[aR n1];try rfl
   obtain⟨i,y,i1,i2⟩:=eN n1;have hy:=hb.2 y (amo i2);have e1:gt d94 b (i:Int)=y:=aM _ i2;have e3:gt aK b (i:Int)=y:=aM _ i2;have ho:=aer y y q now hy hy hi;obtain⟨ob1,ob2⟩:=XX (a:=y) (b:=y) q now hy hy;rw[aF n1,i1,aD i2,e1,e3];generalize mQ y y q now=r at ho ob1 ob2 ⊢;dsimp only[oT,oF];rw[ho];dsimp only[oB];cases aj r.2.2.1 0 with
   | false=>rfl
   | true=>dsimp only[oT,oF,oN];rw[a3,oz r.1 ob1,oz r.2.1 ob2,bX];dsimp only[oB,oT,oF,oN];rw[aD i2];try rfl
theorem Jw(n:Nat)(i:Int):Kt n i i=true:=by
 unfold Kt;induction n with
 | zero=>rfl
 | succ n ih=>exact(Bool.and_eq_true_iff (x:=Nat.beq i.toNat i.toNat)).2 ⟨Nat.beq_refl _,ih⟩
theorem abj(b:List ax)(q:fx)(now:Int)(hb:dE b)(hq:E2 q):g67 (b,()) q now=some ((),(((dm b q now).1,()),((dm b q now).2.1,()),((dm b q now).2.2,()),())):=by
 have hi:=hq.2.2.1;have a1:=Aj b q.2.1 hb.1;have a2:=Aj b q.2.2.1 hb.1;have a3:=AN b hb;unfold g67 dm;rw[Tg b hb,Zw q hq,iM,a1,a2];dsimp only[oB];cases jh b <;> first | rfl | skip
 cases kZ q <;> first | rfl | skip
 cases bh now <;> first | rfl | skip
 dsimp only[oT,oF,oN];obtain⟨op,acct,other,hold,trace,ed,bJ,nA,_⟩:=q;dsimp only at hi ⊢;cases h6:aj op 6 with
 | true=>
   obtain rfl:=bt.1 h6;have t1:aj (6:Int) 1=false:=rfl;have t2:aj (6:Int) 2=false:=rfl;have t3:aj (6:Int) 3=false:=rfl;have t4:aj (6:Int) 4=false:=rfl;have t5:aj (6:Int) 5=false:=rfl;have t6:aj (6:Int) 6=true:=rfl;dsimp only[oT];by_cases n1:ar b acct<0
   . rw[aR n1];try rfl
   by_cases n2:ar b other<0
   . rw[aF n1,aR n2];try rfl
   obtain⟨i,y,i1,i2⟩:=eN n1;obtain⟨k,z,j1,j2⟩:=eN n2;have hy:=hb.2 y (amo i2);have hz:=hb.2 z (amo j2);have e1:gt d94 b (i:Int)=y:=aM _ i2;have e2:gt d94 b (k:Int)=z:=aM _ j2;have e3:gt aK b (i:Int)=y:=aM _ i2;have e4:gt aK b (k:Int)=z:=aM _ j2;have ho:=adm y z hold now hy hz hi;have fD:mQ y z (6,acct,other,hold,trace,ed,bJ,nA,()) now=((gu y z hold now).1,(gu y z hold now).2.1,(gu y z hold now).2.2,[]):=rfl;rw[aF n1,aF n2,i1,j1,t1,t2,t3,t4,t5,a3,e3,e4,fD];generalize gu y z hold now=r at ho ⊢;dsimp only[oB,oT,oF];rw[aD i2,aD j2,e1,e2,ho];dsimp only[oB,oT,oF];cases aj r.2.2 0 with
   | false=>rfl
   | true=>
     have hlen:(cZ b (k:Int) r.2.1).length=b.length:=by unfold cZ;rw[ans]
     have kL:aX (i:Int) (cZ b (k:Int) r.2.1)=true:=ig (by rw[hlen];exact ah i2);dsimp only[oT,oF,oN];rw[kL];try rfl
 | false=>
   dsimp only[oF];by_cases n1:ar b acct<0
   . rw[aR n1];try rfl
   obtain⟨i,y,i1,i2⟩:=eN n1;have hy:=hb.2 y (amo i2);have e1:gt d94 b (i:Int)=y:=aM _ i2;have e3:gt aK b (i:Int)=y:=aM _ i2;rw[aF n1,i1,a3,e3];dsimp only[oB,oT,oF];rw[aD i2,e1,acA y _ _ _ now hy hi,adS y _ _ now hy hi,af4 y _ _ _ now hy hi,acL y _ now hy hi,agM y now hy,VK y now hy,Jw];unfold mQ;dsimp only[oB,oT,oF];rw[h6];cases aj op 1 with
   | true=>dsimp only[oT];cases aj (lP y hold bJ nA now).2 0 <;> rfl
   | false=>
   cases aj op 2 with
   | true=>dsimp only[oT,oF];cases aj (lM y hold bJ now).2 0 <;> rfl
   | false=>
   cases aj op 3 with
   | true=>dsimp only[oT,oF];cases aj (pq y hold bJ (aj op 4) now).2 0 <;> rfl
   | false=>
   cases h4:aj op 4 with
   | true=>dsimp only[oT,oF];cases aj (pq y hold bJ true now).2 0 <;> rfl
   | false=>
   cases aj op 5 with
   | true=>dsimp only[oT,oF];cases aj (lO y hold now).2 0 <;> rfl
   | false=>
   cases aj op 7 with
   | true=>dsimp only[oT,oF];cases aj (wG y now).2 0 <;> rfl
   | false=>dsimp only[oT,oF];cases aj (iT y now).2 0 <;> rfl
abbrev aJ:=List (Int×Unit)
def Cp(b:aJ):Prop:=b.length<=1048576/\∀ x∈b,0<=x.1/\x.1<=255
def gT(b:aJ)(a k:Nat):aJ:=(b.drop a).take k
theorem Qo(b:aJ)(a k:Nat):sub b (a:Int) ((a+k:Nat):Int)=gT b a k:=by unfold sub gT;rw[ano,ano,List.drop_take,am6]
theorem pj{b:aJ}{a k:Nat}(h:a+k<=b.length):(gT b a k).length=k:=by unfold gT;rw[am9,aoa];omega
theorem S0{b:aJ}{a k i:Nat}{x:Int×Unit}(h:(gT b a k)[i]? = some x):i<k/\b[a+i]? = some x:=by
 unfold gT at h;rw[anp]at h;split at h
 . rw[anq]at h;exact⟨by assumption,h⟩
 . simp at h
theorem adi{b:aJ}{a k:Nat}{x:Int×Unit}(h:x∈gT b a k):x∈b:=aoF (ao2 h)
theorem LP{b:aJ}{a k:Nat}(h:a+k<=b.length):eY (a:Int) ((a+k:Nat):Int) b=true:=by show(decide ((0:Int)<=(a:Int))&&(decide ((a:Int)<=((a+k:Nat):Int))&&decide (((a+k:Nat):Int)<=(b.length:Int))))=true;rw[amk (by omega),amk (by omega),amk (by omega)];try rfl
theorem DF(b:aJ)(a k:Nat)(hb:b.length<=1048576)(ha:a<=b.length)(hk:k<=1048576):EF b a k=some ((),(if a+k<=b.length then ((gT b a k,()),(true,()),())else (([],()),(false,()),()))):=by
 unfold EF;have e:bf .i64 (ae b) (a:Int)=(b.length:Int)-a:=bG (by show -4611686018427387904<=(b.length:Int)-a;omega) (by show(b.length:Int)-a<=_;omega);have i1:de (a:Int) 0 (ae b)=true:=bB.2 ⟨by omega,by show(a:Int)<=(b.length:Int);omega⟩;have e2:ak .i64 (a:Int) (k:Int)=((a+k:Nat):Int):=by rw[bd (by omega) (by omega)];omega
 dsimp only;rw[lv,e,e2];dsimp only[oB];rw[i1,aF (a:=(k:Int)) (b:=0) (by omega)];by_cases h:a+k<=b.length
 . rw[aF (by omega),if_pos h,LP h,Qo];try rfl
 . rw[aR (by omega),if_neg h];try rfl
def dF(s:S8):Bool:=s.all fun x=>cond (aE (x.toNat:Int) 32) false (!(aE 126 (x.toNat:Int)))
theorem L4(s:S8)(hs:s.length<=bQ):DL s=zR (dF s):=by
 unfold DL;have h:=aT (step:=yZ sR) s (fun i (_:Unit)=>(s,((i:Nat):Int),())) (fun _ x _=>bif cond (aE (x.toNat:Int) 32) false (!(aE 126 (x.toNat:Int)))then Sum.inl ()else .inr (.inr (false,()))) (fun _=> .inl (s,(s.length:Int),())) (a0:=()) (fun i x a hx=>by
  have aV:=ah hx;show sR s (i:Int)=_;unfold sR;rw[aL hx,aD hx,fV hx,aU (by omega)];dsimp only[oT];cases aE (x.toNat:Int) 32 <;> cases aE 126 (x.toNat:Int) <;> rfl) (fun a=>by
  show sR s (s.length:Int)=_;unfold sR;rw[aA rfl];try rfl)
 rw[j4]at h;have h':Th s 0=_:=h;rw[h'];unfold dF;cases s.all _ <;> rfl
theorem VF(s:S8)(hs:s.length<=bQ):MN s=zR (dF s):=by
 unfold MN;have h:=aT (step:=fJ sJ) s (fun i (_:Unit)=>(s,ae s,((i:Nat):Int),())) (fun _ x _=>bif cond (aE (x.toNat:Int) 32) false (!(aE 126 (x.toNat:Int)))then Sum.inl ()else .inr (.inr (false,()))) (fun _=> .inl (s,ae s,(s.length:Int),())) (a0:=()) (fun i x a hx=>by
  have aV:=ah hx;show sJ s (ae s) (i:Int)=_;unfold sJ;rw[aL hx,aD hx,fV hx,aU (by omega)];dsimp only[oT];cases aE (x.toNat:Int) 32 <;> cases aE 126 (x.toNat:Int) <;> rfl) (fun a=>by
  show sJ s (ae s) (s.length:Int)=_;unfold sJ;rw[aA rfl];try rfl)
 rw[j4]at h;have h':Rq s (ae s) 0=_:=h;rw[h'];unfold dF;cases s.all _ <;> rfl
def oa(acc:Nat)(s:S8):Nat:=s.foldl (fun n x=>n * 10+(x.toNat-48)) acc
theorem DB:∀(s:S8) (acc k:Nat),s.all fL=true->acc<10 ^ k->oa acc s<10 ^ (k+s.length)
 | [],acc,k,_,h=>h
 | x::s,acc,k,hd,h=>by simp only[anc,ami]at hd;have:=dj.1 hd.1;have h2:=DB s (acc * 10+(x.toNat-48)) (k+1) hd.2 (by rw[Nat.pow_succ];omega);rw[amw,show k+(s.length+1)=k+1+s.length by omega];exact h2
theorem Gp:∀(s:S8) (acc:Nat),s.all fL=true->oa acc s<1844674407370955162->Lib.parseUint10 acc s= .ok (oa acc s)
 | [],acc,_,_=>rfl
 | x::s,acc,hd,h=>by
   simp only[anc,ami]at hd;have hx:=dj.1 hd.1;have aif:∀(s:S8) (a:Nat),a<=oa a s:=fun s=>by
    induction s with
    | nil=>intro a;exact oR _
    | cons y s ih=>intro a;exact amp (by omega) (ih (a * 10+(y.toNat-48)))
   have h1:=aif s (acc * 10+(x.toNat-48));have h:oa (acc * 10+(x.toNat-48)) s<1844674407370955162:=h;have ih:=Gp s (acc * 10+(x.toNat-48)) hd.2 h;unfold Lib.parseUint10;rw[if_pos hx,if_neg (by omega),if_neg (by omega),ih];try rfl
theorem dN{s:S8}:aH s=true↔s.all fL=true/\s≠[]:=by
 unfold aH;cases s.all fL with
 | false=>simp
 | true=>cases s <;> simp[aE,ae]
def B7(s:S8):Option Nat:=if aH s=true/\s.length<=18 then some (oa 0 s)else none
def Wo(o:Option Nat):Option (Unit×((Int×Unit)×(Bool×Unit)×Unit)):=some ((),match o with | some n=>(((n:Int),()),(true,()),()) | none=>((0,()),(false,()),()))
theorem aaV(s:S8)(hs:s.length<=bQ):Jy s=Wo (B7 s):=by
 unfold Jy yF B7;rw[jm s hs];dsimp only[oB];cases hd:aH s with
 | false=>rfl
 | true=>
   by_cases wc:s.length<=18
   . rw[if_pos ⟨rfl,wc⟩,amq wc];obtain⟨h1,h2⟩:=dN.1 hd;have hb:=DB s 0 0 h1 (by decide);have l6:oa 0 s<1000000000000000000:=amG hb (by rw[amt];exact aov (by decide) wc);have hu:=Gp s 0 h1 (by omega);have hv:Lib.atoiAll s= .ok (oa 0 s:Int):=by
      cases s with
      | nil=>exact absurd rfl h2
      | cons c r=>have hc:=amB.1 h1 c (by simp);have hc:=dj.1 hc;rw[Lib.atoiAll_plain c r (by omega) (by omega)];unfold Lib.parseMag;rw[if_neg (by simp),hu];show(if 9223372036854775808<=oa 0 (c::r)then _ else _)=_;rw[if_neg (by omega)]
     rw[hv];try rfl
   . rw[if_neg (fun h=>wc h.2)];have:Nat.ble s.length 18=false:=by
      cases h:Nat.ble s.length 18 with
      | false=>rfl
      | true=>exact absurd (amE h) wc
     rw[this];try rfl
theorem LO(s:S8)(hs:s.length<=bQ):O3 s=Wo (B7 s):=by
 have bo:=bl;unfold O3 B7;rw[gh s hs];dsimp only[oB];cases hd:aH s with
 | false=>rfl
 | true=>
   by_cases wc:s.length<=18
   . rw[if_pos ⟨rfl,wc⟩,aF (by show ¬ (18:Int)<(s.length:Int);omega)];obtain⟨h1,h2⟩:=dN.1 hd;have h:=aO (step:=fJ Ba) s (fun i (a:Nat)=>(s,(a:Int),((i:Nat):Int),())) (fun _ x a=>Sum.inl (a * 10+(x.toNat-48))) (fun a=> .inl (s,(a:Int),(s.length:Int),())) (fun i a=>a<10 ^ i) (a0:=0) (by decide) (fun i x a hx ha=>by
      have aV:=ah hx;have hc:=dj.1 (amB.1 h1 x (amo hx));have h17:a<10 ^ 17:=amG ha (aov (by decide) (by omega));have amg:a<100000000000000000:=h17;show Ba s (a:Int) (i:Int)=_;unfold Ba;have m:yj .i64 (a:Int) 10=((a * 10:Nat):Int):=by unfold yj;rw[IntKind.wrap_i64];omega
      have c:dC .i64 (x.toNat:Int)=(x.toNat:Int):=by unfold dC;rw[IntKind.wrap_i64];omega
      rw[aL hx,aD hx,fV hx,aU (by omega),m,c,bd (by omega) (by omega),bG (by omega) (by omega)];dsimp only[oT];rw[show((a * 10:Nat):Int)+(x.toNat:Int)-48=((a * 10+(x.toNat-48):Nat):Int)by omega]) (fun i x a a' hx ha hf=>by
      have hc:=dj.1 (amB.1 h1 x (amo hx));simp only[amx]at hf;rw[<- hf,Nat.pow_succ];omega) (fun a ha=>by
      show Ba s (a:Int) (s.length:Int)=_;unfold Ba;rw[aA rfl];try rfl)
     rw[bS]at h;have h':Zr s 0 0=_:=h;rw[h'];try rfl
   . rw[if_neg (fun h=>wc h.2),aR (by show(18:Int)<(s.length:Int);omega)];try rfl
theorem qE{s t:S8}(h:s.length+t.length<=bQ):jx s t=true:=amq h
def U2(x:Int×Unit):S8:=[UInt8.ofNat (48+x.1.toNat / 16),UInt8.ofNat (48+x.1.toNat % 16)]
def sq(l:aJ):S8:=(l.map U2).flatten
theorem vG:∀ l:aJ,(sq l).length=2 * l.length
 | []=>rfl
 | x::r=>by have:=vG r;unfold sq at this ⊢;simp only[amS,List.flatten_cons,amj,this,U2,amw,am3];omega
def Ex:S8->aJ
 | []=>[]
 | x::r=>((x.toNat:Int),())::Ex r
theorem wU:∀ q:S8,strOf (Ex q)=q
 | []=>rfl
 | x::r=>by show UInt8.ofNat (Int.toNat (x.toNat:Int))::strOf (Ex r)=_;rw[wU r,ano];simp
theorem yA:∀ q:S8,(Ex q).length=q.length
 | []=>rfl
 | x::r=>amP (· + 1) (yA r)
theorem K1:∀ q r:S8,Ex (q++r)=Ex q++Ex r
 | [],r=>rfl
 | x::q,r=>amP (((x.toNat:Int),()) :: ·) (K1 q r)
theorem G2:∀(n:Nat) (q:S8),(Ex q).drop n=Ex (q.drop n)
 | 0,q=>by simp
 | n+1,[]=>rfl
 | n+1,x::r=>G2 n r
def jj(b:aJ)(a n:Nat):Option S8:=
 if 1<=n/\n<=38/\a+(n+1) / 2<=b.length then
  (if (sq (gT b a ((n+1) / 2))).all fL=true/\(n % 2=1->(sq (gT b a ((n+1) / 2))).head? = some 48)then some ((sq (gT b a ((n+1) / 2))).drop (n % 2))else none)
 else none
def vD(o:Option S8)(e:Int):Option (Unit×((S8×Unit)×(Int×Unit)×(Bool×Unit)×Unit)):=some ((),match o with | some s=>((s,()),(e,()),(true,()),()) | none=>(([],()),(0,()),(false,()),()))
theorem DQ{s:S8}:s.head? = some 48↔∃ r,s=48::r:=by
 cases s with
 | nil=>simp
 | cons x r=>simp
theorem Q8(n:Nat)(h:n<=1048576):kr .i64 (ak .i64 (n:Int) 1) 2=(((n+1) / 2:Nat):Int):=by rw[bd (by omega) (by omega)];unfold kr;rw[anS (by omega),IntKind.wrap_i64];omega
theorem LA(n:Nat):aj (eH (n:Int) 2) 1=decide (n % 2=1):=by
 unfold aj eH;rw[anB (by omega)];by_cases h:n % 2=1
 . rw[amk h];exact beq_iff_eq.2 (by omega)
 . rw[amF h];exact beq_eq_false_iff_ne.2 (by omega)
theorem afz(x:Int×Unit)(h:0<=x.1/\x.1<=255):strOf [((dC .u8 (ak .i64 48 (kr .i64 (dC .i64 x.1) 16))),()),((dC .u8 (ak .i64 48 (eH (dC .i64 x.1) 16))),())]=U2 x:=by
 obtain⟨⟨n,hn⟩,hn2⟩:(∃ n:Nat,x.1=n)/\x.1<=255:=⟨⟨x.1.toNat,by omega⟩,h.2⟩;have c:dC .i64 x.1=(n:Int):=by unfold dC;rw[IntKind.wrap_i64];omega
 have q:kr .i64 (n:Int) 16=((n / 16:Nat):Int):=by unfold kr;rw[anS (by omega),IntKind.wrap_i64];omega
 have r:eH (n:Int) 16=((n % 16:Nat):Int):=by unfold eH;rw[anB (by omega)];omega
 have u:∀ k:Nat,k<=16->dC .u8 (ak .i64 48 (k:Int))=((48+k:Nat):Int):=fun k hk=>by rw[bd (by omega) (by omega)];unfold dC;rw[IntKind.wrap_u8];omega
 rw[c,q,r,u _ (by omega),u _ (by omega)];unfold strOf U2;rw[hn];try rfl
theorem afg:∀ c:Fin 256,ak .u8 48 (rJ .u8 (c.val:Int) 4)=((48+c.val / 16:Nat):Int)/\ak .u8 48 (Ng .u8 (c.val:Int) 15)=((48+c.val % 16:Nat):Int):=by decide +kernel
theorem Ok{s:S8}(h:∃ r,s=48::r):(s.drop 1).all fL=s.all fL:=by obtain⟨r,rfl⟩:=h;rfl
theorem QW{s:S8}(hs:s≠[]):aj (fh s 0) 48=true↔∃ r,s=48::r:=by
 cases s with
 | nil=>exact absurd rfl hs
 | cons x r=>
   show((x.toNat:Int) == 48)=true↔_;rw[beq_iff_eq];refine⟨fun h=>⟨r,?_⟩,fun⟨r',h⟩=>?_⟩
   . have:x=48:=UInt8.toNat_inj.1 (by show x.toNat=48;omega);rw[this]
   . rw[(List.cons.inj h).1];try rfl
theorem qh{s:S8}(hs:s≠[]):aH s=s.all fL:=by
 cases h:s.all fL with
 | true=>exact dN.2 ⟨h,hs⟩
 | false=>
   cases h2:aH s with
   | false=>rfl
   | true=>rw[(dN.1 h2).1]at h;simp at h
theorem Xh{s:S8}{n:Nat}(h:n<s.length):s.drop n≠[]:=fun e=>by have:=amP List.length e;rw[aoa]at this;simp only[am3]at this;omega
theorem GU(b:aJ)(a n:Nat)(hb:Cp b)(ha:a<=b.length)(hn:n<=1048576):N6 b a n=vD (jj b a n) ((a+(n+1) / 2:Nat):Int):=by
 have bo:=bl;have hl:=hb.1;unfold N6 jj;have e:bf .i64 (ae b) (a:Int)=(b.length:Int)-a:=bG (by show -4611686018427387904<=(b.length:Int)-a;omega) (by show(b.length:Int)-a<=_;omega);have hq:=Q8 n hn;dsimp only;rw[e,hq,aF (a:=(a:Int)) (b:=0) (by omega),aF (a:=ae b) (b:=(a:Int)) (by show ¬ (b.length:Int)<a;omega)];by_cases h1:1<=n/\n<=38;rotate_left
 . rw[if_neg (fun h=>h1 ⟨h.1,h.2.1⟩)];by_cases h0:(n:Int)<1
   . rw[aR h0];try rfl
   . rw[aF h0,aR (by omega)];try rfl
 rw[aF (a:=(n:Int)) (b:=1) (by omega),aF (a:=38) (b:=(n:Int)) (by omega)];dsimp only[oF,oT];by_cases h2:a+(n+1) / 2<=b.length;rotate_left
 . rw[if_neg (fun h=>h2 h.2.2),aR (by omega)];try rfl
 rw[if_pos ⟨h1.1,h1.2,h2⟩,aF (by omega)];dsimp only[oF];have hpl:=pj h2;have h:=aO (step:=pY AJ) (gT b a ((n+1) / 2)) (fun i (o:S8)=>(b,(a:Int),(n:Int),o,((a+i:Nat):Int),())) (fun _ x o=>Sum.inl (o++U2 x)) (fun o=> .inl (b,(a:Int),(n:Int),o,((a+(n+1) / 2:Nat):Int),())) (fun i o=>o.length=2 * i) (a0:=[]) rfl (fun i x o hx ho=>by
  obtain⟨hik,hg⟩:=S0 hx;have aV:=ah hg;show AJ b (a:Int) (n:Int) o ((a+i:Nat):Int)=_;unfold AJ;rw[hq,bd (by omega) (by omega),aR (by omega),aD hg,aM _ hg];dsimp only[oT];rw[afz x (hb.2 x (amo hg)),qE (by show o.length+2<=bQ;omega),aU (by omega)];try rfl) (fun i x o o' hx ho hf=>by
  simp only[amx]at hf;rw[<- hf,amj,ho];show 2 * i+2=_;omega) (fun o ho=>by
  show AJ b (a:Int) (n:Int) o ((a+(gT b a ((n+1) / 2)).length:Nat):Int)=_;unfold AJ;rw[hq,bd (by omega) (by omega),hpl,aF (by omega)];try rfl)
 have BU:∀(l:aJ) (o:S8),l.foldl (fun o x=>o++U2 x) o=o++sq l:=fun l=>by
  induction l with
  | nil=>intro o;simp[sq]
  | cons x r ih=>intro o;rw[anb,ih];simp[sq]
 rw[bS,BU,an5]at h;have h':YQ b (a:Int) (n:Int) [] (a:Int)=_:=h;rw[h'];generalize hs:sq (gT b a ((n+1) / 2))=s;have E8:s.length=2 * ((n+1) / 2):=by rw[<- hs,vG,hpl]
 have OZ:s≠[]:=fun e=>by rw[e]at E8;simp only[am3]at E8;omega
 dsimp only[oB,oL];rw[LA,hq,bd (by omega) (by omega),show(a:Int)+(((n+1) / 2:Nat):Int)=((a+(n+1) / 2:Nat):Int)by omega];by_cases hp:n % 2=1
 . rw[amk hp,hp];have i0:aX 0 s=true:=ig (i:=0) (by omega);have c1:eY 1 (ae s) s=true:=by
    show(decide ((0:Int)<=1)&&(decide ((1:Int)<=(s.length:Int))&&decide ((s.length:Int)<=(s.length:Int))))=true;rw[amk (by omega),amk (by omega),amk (by omega)];try rfl
   have sb:sub s 1 (ae s)=s.drop 1:=by show(s.take (Int.toNat (s.length:Int))).drop 1=_;rw[ano,aoH]
   rw[i0];dsimp only[oT];by_cases OV:∃ r,s=48::r
   . rw[(QW OZ).2 OV];rw[c1,sb,gh _ (by rw[aoa];omega),qh (Xh (by omega)),Ok OV];dsimp only[oT,oB];cases hd:s.all fL with
     | false=>rw[if_neg (fun h=>by simp at h)];try rfl
     | true=>rw[if_pos ⟨rfl,fun _=>DQ.2 OV⟩];try rfl
   . have:aj (fh s 0) 48=false:=by
      cases h:aj (fh s 0) 48 with
      | false=>rfl
      | true=>exact absurd ((QW OZ).1 h) OV
     rw[this,if_neg (fun h=>OV (DQ.1 (h.2 rfl)))];try rfl
 . rw[amF hp];have BZ:n % 2=0:=by omega
   rw[BZ];dsimp only[oF];rw[gh _ (by omega),qh OZ];dsimp only[oB];cases hd:s.all fL with
   | false=>rw[if_neg (fun h=>by simp at h)];try rfl
   | true=>rw[if_pos ⟨rfl,fun h=>by simp at h⟩];try rfl
theorem KH(b:aJ)(a n:Nat)(hb:Cp b)(ha:a<=b.length)(hn:n<=1048576):Pz b a n=vD (jj b a n) ((a+(n+1) / 2:Nat):Int):=by
 have bo:=bl;have hl:=hb.1;unfold Pz jj;rw[lv,Q8 n hn];dsimp only[oB];by_cases h1:1<=n/\n<=38;rotate_left
 . rw[if_neg (fun h=>h1 ⟨h.1,h.2.1⟩)];have:de (n:Int) 1 38=false:=by
    cases h:de (n:Int) 1 38 with
    | false=>rfl
    | true=>have:=bB.1 h;omega
   rw[this];try rfl
 rw[bB.2 (by omega:(1:Int)<=n/\(n:Int)<=38),DF b a _ hl ha (by omega)];have aa8:∀(t9:aJ) (t10:Bool) (p:aJ),(∀ x∈p,0<=x.1/\x.1<=255)->p.length<=20->aaO (a:Int) (n:Int) t9 t10 [] p (ae p) 0=some (.inl ((a:Int),(n:Int),t9,t10,Ex (sq p),p,ae p,(p.length:Int),())):=fun t9 t10 p hp hpl=>by
  have h:=aO (step:=X4 Bu) p (fun i (o:aJ)=>((a:Int),(n:Int),t9,t10,o,p,ae p,((i:Nat):Int),())) (fun _ x o=>Sum.inl (o++Ex (U2 x))) (fun o=> .inl ((a:Int),(n:Int),t9,t10,o,p,ae p,(p.length:Int),())) (fun i o=>o.length=2 * i) (a0:=[]) rfl (fun i x o hx ho=>by
   have aV:=ah hx;have hx2:=hp x (amo hx);show Bu (a:Int) (n:Int) t9 t10 o p (ae p) (i:Int)=_;unfold Bu;rw[aL hx,aD hx,aM _ hx,aU (by omega)];obtain⟨k,hk⟩:∃ k:Nat,x.1=k:=⟨x.1.toNat,by omega⟩;have hf:=afg ⟨k,by omega⟩;dsimp only at hf;rw[hk,hf.1,hf.2];dsimp only[oT];have:∀ ys:aJ,ys.length=2->bk 1 o ys=true:=fun ys hy=>amq (by rw[hy];omega)
   rw[this _ rfl];have e1:∀ m:Nat,m<256->(UInt8.ofNat m).toNat=m:=fun m hm=>by simp[aoE hm]
   show some (Sum.inl _)=some (Sum.inl _);unfold U2;rw[hk];simp only[ano,Ex,fE,e1 (48+k / 16) (by omega),e1 (48+k % 16) (by omega)]) (fun i x o o' hx ho hf=>by
   simp only[amx]at hf;rw[<- hf,amj,ho];show 2 * i+2=_;omega) (fun o ho=>by
   show Bu (a:Int) (n:Int) t9 t10 o p (ae p) (p.length:Int)=_;unfold Bu;rw[aA rfl];try rfl)
  have BU:∀(l:aJ) (o:aJ),l.foldl (fun o x=>o++Ex (U2 x)) o=o++Ex (sq l):=fun l=>by
   induction l with
   | nil=>intro o;show o=o++[];rw[amZ]
   | cons x r ih=>intro o;rw[anb,ih,show sq (x::r)=U2 x++sq r from rfl,K1,amH]
  rw[bS,BU,an5]at h;exact h
 by_cases h2:a+(n+1) / 2<=b.length;rotate_left
 . rw[if_neg h2,if_neg (fun h=>h2 h.2.2)];exact(bn (aa8 [] false [] (fun x hx=>by simp at hx) (by simp))).trans rfl
 rw[if_pos h2,if_pos ⟨h1.1,h1.2,h2⟩];have hpl:=pj h2;refine(bn (aa8 _ true _ (fun x hx=>hb.2 x (adi hx)) (by omega))).trans ?_;generalize hs:sq (gT b a ((n+1) / 2))=s;have E8:s.length=2 * ((n+1) / 2):=by rw[<- hs,vG,hpl]
 have OZ:s≠[]:=fun e=>by rw[e]at E8;simp only[am3]at E8;omega
 show Option.bind (xa (strOf (Ex s))) _=_;rw[wU,jm _ (by omega),qh OZ];generalize hm:Ex s=m;have hlm:ae m=(s.length:Int):=by rw[<- hm];show((Ex s).length:Int)=_;rw[yA]
 have UN:bf .i64 (s.length:Int) (n:Int)=((n % 2:Nat):Int):=by rw[bG (by omega) (by omega)];omega
 have hpc:ae (gT b a ((n+1) / 2))=(((n+1) / 2:Nat):Int):=by show((gT b a _).length:Int)=_;rw[hpl]
 have c1:eY ((n % 2:Nat):Int) (s.length:Int) m=true:=by show(decide ((0:Int)<=((n % 2:Nat):Int))&&(decide (((n % 2:Nat):Int)<=(s.length:Int))&&decide ((s.length:Int)<=(m.length:Int))))=true;rw[show(m.length:Int)=(s.length:Int)from hlm,amk (by omega),amk (by omega),amk (by omega)];try rfl
 have sb:strOf (sub m ((n % 2:Nat):Int) (s.length:Int))=s.drop (n % 2):=by rw[<- hm];show strOf (((Ex s).take (Int.toNat (s.length:Int))).drop (Int.toNat ((n % 2:Nat):Int)))=_;rw[ano,ano,anU (by rw[yA];exact oR _)];exact(amP strOf (G2 _ _)).trans (wU _)
 have hF:(cond (eY (bf .i64 (ae m) (n:Int)) (ae m) m) (some ((),((strOf (sub m (bf .i64 (ae m) (n:Int)) (ae m)),()),(ak .i64 (a:Int) (ae (gT b a ((n+1) / 2))),()),(true,()),()))) none:Option (Unit×((S8×Unit)×(Int×Unit)×(Bool×Unit)×Unit)))=vD (some (s.drop (n % 2))) ((a+(n+1) / 2:Nat):Int):=by rw[hlm,UN,hpc,bd (by omega) (by omega),c1,sb,show(a:Int)+(((n+1) / 2:Nat):Int)=((a+(n+1) / 2:Nat):Int)by omega];try rfl
 show cond (!(s.all fL)) (some ((),(([],()),(0,()),(false,()),()))) (cond (aj (eH (n:Int) 2) 1) (cond (aX 0 m) (cond (!(aj (gt (0,()) m 0).1 48)) (some ((),(([],()),(0,()),(false,()),()))) (cond (eY (bf .i64 (ae m) (n:Int)) (ae m) m) (some ((),((strOf (sub m (bf .i64 (ae m) (n:Int)) (ae m)),()),(ak .i64 (a:Int) (ae (gT b a ((n+1) / 2))),()),(true,()),()))) none)) none)
  (cond (eY (bf .i64 (ae m) (n:Int)) (ae m) m) (some ((),((strOf (sub m (bf .i64 (ae m) (n:Int)) (ae m)),()),(ak .i64 (a:Int) (ae (gT b a ((n+1) / 2))),()),(true,()),()))) none))=_
 rw[hF,LA];cases hd:s.all fL with
 | false=>rw[if_neg (fun h=>by simp at h)];try rfl
 | true=>
   by_cases hp:n % 2=1
   . rw[amk hp];subst hm;have hm0:∃ x r,s=x::r:=by
      cases s with
      | nil=>exact absurd rfl OZ
      | cons x r=>exact⟨x,r,rfl⟩
     obtain⟨x,r,rfl⟩:=hm0;have i0:aX 0 (Ex (x::r))=true:=ig (i:=0) (by rw[yA];simp);rw[i0];show cond (!(aj (x.toNat:Int) 48)) _ _=_;by_cases OV:x.toNat=48
     . have hx:x=48:=UInt8.toNat_inj.1 OV;rw[show aj (x.toNat:Int) 48=true from beq_iff_eq.2 (by omega),if_pos ⟨rfl,fun _=>by rw[hx];try rfl⟩];try rfl
     . rw[show aj (x.toNat:Int) 48=false from beq_eq_false_iff_ne.2 (by omega),if_neg (fun h=>by obtain⟨r',h⟩:=DQ.1 (h.2 hp);rw[(List.cons.inj h).1]at OV;exact OV rfl)];try rfl
   . rw[amF hp,if_pos ⟨rfl,fun h=>absurd h hp⟩];try rfl
def vf(p:aJ)(i:Nat):Bool:=aj (eH (rJ .i64 (dC .i64 (p.getD (i / 8) (0,())).1) ((7-i % 8:Nat):Int)) 2) 1
def gi(p:aJ):aJ:=((List.range 64).filter (vf p)).map fun i=>(((i+1:Nat):Int),())
theorem adx:∀(c:Fin 256) (r:Fin 8),(!(aj (Ng .u8 (c.val:Int) (rJ .u8 128 (r.val:Int))) 0))=aj (eH (rJ .i64 (dC .i64 (c.val:Int)) ((7-r.val:Nat):Int)) 2) 1:=by decide +kernel
theorem wY(p:aJ):∀(l:List Nat) (o:aJ),l.foldl (fun o i=>bif vf p i then o++[(((i+1:Nat):Int),())]else o) o=o++(l.filter (vf p)).map fun i=>(((i+1:Nat):Int),())
 | [],o=>by simp
 | i::l,o=>by rw[anb,wY p l,ana];cases vf p i <;> simp
theorem Kq{i x:Nat}(h:(List.range 64)[i]? = some x):x=i/\i<64:=by have:=(amQ.1 h);obtain⟨h1,h2⟩:=this;rw[List.getElem_range]at h2;exact⟨h2.symm,by simpa using h1⟩
theorem Vz{i:Nat}(h:i<64):bf .i64 ((i+1:Nat):Int) 1=(i:Int)/\kr .i64 (i:Int) 8=((i / 8:Nat):Int)/\eH (i:Int) 8=((i % 8:Nat):Int)/\cl ((i+1:Nat):Int) 64=true:=by
 refine⟨by rw[bG (by omega) (by omega)];omega,?_,?_,amk (by omega)⟩
 . unfold kr;rw[anS (by omega),IntKind.wrap_i64];omega
 . unfold eH;rw[anB (by omega)];omega
def rP(b:aJ)(a:Nat):Option (Unit×((aJ×Unit)×(Int×Unit)×(Bool×Unit)×Unit)):=some ((),(if a+8<=b.length then ((gi (gT b a 8),()),(((a+8:Nat):Int),()),(true,()),())else (([],()),(0,()),(false,()),())))
theorem Ks(b:aJ)(a k i:Nat)(hi:i<k)(h:a+k<=b.length):∃ x,b[a+i]? = some x/\(gT b a k).getD i (0,())=x/\(gT b a k)[i]? = some x:=by obtain⟨x,hx⟩:∃ x,(gT b a k)[i]? = some x:=⟨_,amm (by rw[pj h];exact hi)⟩;exact⟨x,(S0 hx).2,by rw[ank,hx];try rfl,hx⟩
theorem QD(b:aJ)(a:Nat)(hb:Cp b)(ha:a<=b.length):JY b a=rP b a:=by
 have bo:=bl;have hl:=hb.1;unfold JY rP;have e:bf .i64 (ae b) 8=(b.length:Int)-8:=bG (by show -4611686018427387904<=(b.length:Int)-8;omega) (by show(b.length:Int)-8<=_;omega);rw[e,aF (a:=(a:Int)) (b:=0) (by omega)];by_cases h8:a+8<=b.length;rotate_left
 . rw[if_neg h8,aR (by omega)];try rfl
 rw[if_pos h8,aF (by omega)];have h:=aO (step:=ep xp) (List.range 64) (fun i (o:aJ)=>(b,(a:Int),o,((i+1:Nat):Int),())) (fun _ x o=>Sum.inl (bif vf (gT b a 8) x then o++[(((x+1:Nat):Int),())]else o)) (fun o=> .inl (b,(a:Int),o,65,())) (fun i o=>o.length<=i) (a0:=[]) (oR _) (fun i x o hx ho=>by
  obtain⟨rfl,hi⟩:=Kq hx;obtain⟨e1,e2,e3,e4⟩:=Vz hi;obtain⟨c,hc,hd,_⟩:=Ks b a 8 (x / 8) (by omega) h8;show xp b (a:Int) o ((x+1:Nat):Int)=_;unfold xp;have e5:bf .i64 7 ((x % 8:Nat):Int)=((7-x % 8:Nat):Int):=by rw[bG (by omega) (by omega)];omega
  have e6:ak .i64 (a:Int) ((x / 8:Nat):Int)=((a+x / 8:Nat):Int):=by rw[bd (by omega) (by omega)];omega
  have lG:vf (gT b a 8) x=aj (eH (rJ .i64 (dC .i64 c.1) ((7-x % 8:Nat):Int)) 2) 1:=by unfold vf;rw[hd]
  dsimp only;rw[e4,e1,e2,e3,e5,e6,aD hc,aM _ hc,show cl 0 ((7-x % 8:Nat):Int)=true from amk (by omega),<- lG,aU (by omega)];have:bk 8 o [(((x+1:Nat):Int),())]=true:=amq (by show(o.length+1) * 8<=bQ;omega);rw[this];cases vf (gT b a 8) x <;> rfl) (fun i x o o' hx ho hf=>by
  simp only[amx]at hf;rw[<- hf];cases vf (gT b a 8) x with
  | false=>show o.length<=_;omega
  | true=>show(o++[_]).length<=_;rw[amj];show o.length+1<=_;omega) (fun o ho=>by
  show xp b (a:Int) o (((List.range 64).length+1:Nat):Int)=_;rfl)
 rw[bS,wY,an5]at h;have h':Ub b (a:Int) [] 1=_:=h;refine(bn h').trans ?_;show some ((),((_,()),(ak .i64 (a:Int) 8,()),(true,()),()))=_;rw[bd (by omega) (by omega)];try rfl
theorem SV(b:aJ)(a:Nat)(hb:Cp b)(ha:a<=b.length):Ho b a=rP b a:=by
 have bo:=bl;have hl:=hb.1;unfold Ho rP;have hp:EF b (a:Int) 8=_:=DF b a 8 hl ha (by decide);rw[hp];by_cases h8:a+8<=b.length;rotate_left
 . rw[if_neg h8,if_neg h8];try rfl
 rw[if_pos h8,if_pos h8];generalize hq:gT b a 8=p;have h:=aO (step:=ep wA) (List.range 64) (fun i (o:aJ)=>((a:Int),p,o,((i+1:Nat):Int),())) (fun _ x o=>Sum.inl (bif vf p x then o++[(((x+1:Nat):Int),())]else o)) (fun o=> .inl ((a:Int),p,o,65,())) (fun i o=>o.length<=i) (a0:=[]) (oR _) (fun i x o hx ho=>by
  obtain⟨rfl,hi⟩:=Kq hx;obtain⟨e1,e2,e3,e4⟩:=Vz hi;obtain⟨c,hc,hd,OX⟩:=Ks b a 8 (x / 8) (by omega) h8;rw[hq]at hd OX;have hcb:=hb.2 c (amo hc);show wA (a:Int) p o ((x+1:Nat):Int)=_;unfold wA;obtain⟨k,hk⟩:∃ k:Nat,c.1=k:=⟨c.1.toNat,by omega⟩;have vW:=adx ⟨k,by omega⟩ ⟨x % 8,by omega⟩;dsimp only at vW;have lG:vf p x= !(aj (Ng .u8 c.1 (rJ .u8 128 ((x % 8:Nat):Int))) 0):=by unfold vf;rw[hd,hk,vW]
  dsimp only;rw[e4,e1,e2,e3,aD OX,aM _ OX,show cl 0 ((x % 8:Nat):Int)=true from amk (by omega),<- lG,aU (by omega)];have:bk 8 o [(((x+1:Nat):Int),())]=true:=amq (by show(o.length+1) * 8<=bQ;omega);rw[this];cases vf p x <;> rfl) (fun i x o o' hx ho hf=>by
  simp only[amx]at hf;rw[<- hf];cases vf p x with
  | false=>show o.length<=_;omega
  | true=>show(o++[_]).length<=_;rw[amj];show o.length+1<=_;omega) (fun o ho=>by
  show wA (a:Int) p o (((List.range 64).length+1:Nat):Int)=_;rfl)
 rw[bS,wY,an5]at h;have h':Qc (a:Int) p [] 1=_:=h;refine(bn h').trans ?_;show some ((),((_,()),(ak .i64 (a:Int) 8,()),(true,()),()))=_;rw[bd (by omega) (by omega)];try rfl
theorem nZ(p:aJ):(gi p).length<=64:=by unfold gi;rw[anO];exact amp (am8 _ _) (by simp)
theorem P9{p:aJ}{x:Int×Unit}(h:x∈gi p):1<=x.1/\x.1<=64:=by obtain⟨i,hi,rfl⟩:=an9.1 h;have:=anu.1 (anw.1 hi).1;constructor <;> (show _<=_) <;> omega
abbrev Zm:=Int×Int×Int×Unit
def ld:List Zm:=[(2,3,19,()),(3,1,6,()),(4,1,12,()),(7,1,10,()),(11,1,6,()),(14,1,4,()),(37,2,12,()),(38,2,6,()),(39,2,2,()),(41,2,8,()),(48,5,60,()),(49,1,3,()),(54,5,60,()),(95,2,12,()),(102,4,20,()),(103,4,20,())]
def Of(no:Int):Zm:=(ld.find? fun r=>aj r.1 no).getD (0,0,0,())
def bE(no:Int):Int:=(Of no).2.1
def gK(no:Int):Int:=(Of no).2.2.1
theorem nT{α Y:Type}(p:α->Bool)(y:α->Y)(z:Y):∀(l:List α) (i:Nat),kO (fun _ x (_:Unit)=>bif p x then .inr (y x)else .inl ()) (fun _=>z) i l ()=match l.find? p with | some x=>y x | none=>z
 | [],_=>rfl
 | x::l,i=>by
   have ih:=nT p y z l (i+1);rw[List.find?_cons,kO];cases p x with
   | true=>rfl
   | false=>exact ih
theorem SP(no:Int):Nn no=some ((),(Of no,())):=by
 unfold Nn;have h:=aT (step:=pY xi) ld (fun i (_:Unit)=>(no,ld,ae ld,((i:Nat):Int),(0,0,0,()),())) (fun _ x _=>bif aj x.1 no then .inr (.inr (x,()))else .inl ()) (fun _=> .inl (no,ld,ae ld,(ld.length:Int),(0,0,0,()),())) (a0:=()) (fun i x a hx=>by
  have aV:=ah hx;have h16:ld.length=16:=rfl;have bo:=bl;show xi no ld (ae ld) (i:Int) (0,0,0,())=_;unfold xi;rw[aL hx,aD hx,aM _ hx,aU (by omega)];dsimp only[oT];cases aj x.1 no <;> rfl) (fun a=>by
  show xi no ld (ae ld) (ld.length:Int) (0,0,0,())=_;rfl)
 rw[nT]at h;have h':SI no ld (ae ld) 0 (0,0,0,())=_:=h;refine(bn h').trans ?_;unfold Of;cases ld.find? _ <;> rfl
theorem wu(no:Int):no=2∨no=3∨no=4∨no=7∨no=11∨no=14∨no=37∨no=38∨no=39∨no=41∨no=48∨no=49∨no=54∨no=95∨no=102∨no=103∨∀ k∈[2,3,4,7,11,14,37,38,39,41,48,49,54,95,102,103],aj no k=false/\aj k no=false:=by
 by_cases h:∀ k∈[2,3,4,7,11,14,37,38,39,41,48,49,54,95,102,103],no≠k
 . have:∀ k∈[2,3,4,7,11,14,37,38,39,41,48,49,54,95,102,103],aj no k=false/\aj k no=false:=fun k hk=>⟨beq_eq_false_iff_ne.2 (h k hk),beq_eq_false_iff_ne.2 (Ne.symm (h k hk))⟩
   iterate 16 right
   exact this
 . simp only[Classical.not_forall,Classical.not_not]at h;obtain⟨k,hk,rfl⟩:=h;simp only[ams,List.not_mem_nil,or_false]at hk;rcases hk with h | h | h | h | h | h | h | h | h | h | h | h | h | h | h | h <;> simp[h]
theorem Er{no:Int}(h:∀ k∈[2,3,4,7,11,14,37,38,39,41,48,49,54,95,102,103],aj no k=false/\aj k no=false):Of no=(0,0,0,()):=by unfold Of ld;simp only[List.find?_cons,(h 2 (by simp)).2,(h 3 (by simp)).2,(h 4 (by simp)).2,(h 7 (by simp)).2,(h 11 (by simp)).2,(h 14 (by simp)).2,(h 37 (by simp)).2,(h 38 (by simp)).2,(h 39 (by simp)).2,(h 41 (by simp)).2,(h 48 (by simp)).2,(h 49 (by simp)).2,(h 54 (by simp)).2,(h 95 (by simp)).2,(h 102 (by simp)).2,(h 103 (by simp)).2,List.find?_nil,Option.getD_none]
theorem wS(no:Int):EZ no=zR (bE no):=by
 rcases wu no with rfl | rfl | rfl | rfl | rfl | rfl | rfl | rfl | rfl | rfl | rfl | rfl | rfl | rfl | rfl | rfl | h
 all_goals first | rfl | skip
 unfold EZ bE;rw[Er h];simp only[(h 2 (by simp)).1,(h 3 (by simp)).1,(h 4 (by simp)).1,(h 7 (by simp)).1,(h 11 (by simp)).1,(h 14 (by simp)).1,(h 37 (by simp)).1,(h 38 (by simp)).1,(h 39 (by simp)).1,(h 41 (by simp)).1,(h 48 (by simp)).1,(h 49 (by simp)).1,(h 54 (by simp)).1,(h 95 (by simp)).1,(h 102 (by simp)).1,(h 103 (by simp)).1,oF]
theorem AQ(no:Int):JV no=zR (gK no):=by
 rcases wu no with rfl | rfl | rfl | rfl | rfl | rfl | rfl | rfl | rfl | rfl | rfl | rfl | rfl | rfl | rfl | rfl | h
 all_goals first | rfl | skip
 unfold JV gK;rw[Er h];simp only[(h 2 (by simp)).1,(h 3 (by simp)).1,(h 4 (by simp)).1,(h 7 (by simp)).1,(h 11 (by simp)).1,(h 14 (by simp)).1,(h 37 (by simp)).1,(h 38 (by simp)).1,(h 39 (by simp)).1,(h 41 (by simp)).1,(h 48 (by simp)).1,(h 49 (by simp)).1,(h 54 (by simp)).1,(h 95 (by simp)).1,(h 102 (by simp)).1,(h 103 (by simp)).1,oF]
theorem tr(no:Int):DP no=zR (bE no):=by unfold DP;rw[SP];try rfl
theorem P0(no:Int):SW no=zR (gK no):=by unfold SW;rw[SP];try rfl
theorem kinds(no:Int):∃ n:Nat,gK no=n/\((bE no=0/\n=0)∨(bE no=1/\1<=n/\n<=12)∨(bE no=2/\1<=n/\n<=12)∨(bE no=3/\n=19)∨(bE no=4/\n=20)∨(bE no=5/\n=60)):=by
 rcases wu no with rfl | rfl | rfl | rfl | rfl | rfl | rfl | rfl | rfl | rfl | rfl | rfl | rfl | rfl | rfl | rfl | h
 . exact⟨19,rfl,by decide⟩
 . exact⟨6,rfl,by decide⟩
 . exact⟨12,rfl,by decide⟩
 . exact⟨10,rfl,by decide⟩
 . exact⟨6,rfl,by decide⟩
 . exact⟨4,rfl,by decide⟩
 . exact⟨12,rfl,by decide⟩
 . exact⟨6,rfl,by decide⟩
 . exact⟨2,rfl,by decide⟩
 . exact⟨8,rfl,by decide⟩
 . exact⟨60,rfl,by decide⟩
 . exact⟨3,rfl,by decide⟩
 . exact⟨60,rfl,by decide⟩
 . exact⟨12,rfl,by decide⟩
 . exact⟨20,rfl,by decide⟩
 . exact⟨20,rfl,by decide⟩
 . exact⟨0,by unfold gK;rw[Er h];try rfl,.inl ⟨by unfold bE;rw[Er h],rfl⟩⟩
theorem eP{b:aJ}{a n:Nat}{s:S8}(h:jj b a n=some s):s.all fL=true/\s.length=n/\1<=n/\n<=38/\a+(n+1) / 2<=b.length:=by
 unfold jj at h;split at h
 . rename_i h1;split at h
   . rename_i h2;cases h;have hl:(sq (gT b a ((n+1) / 2))).length=2 * ((n+1) / 2):=by rw[vG,pj h1.2.2]
     refine⟨amB.2 fun x hx=>amB.1 h2.1 x (aoF hx),?_,h1⟩;rw[aoa,hl];omega
   . simp at h
 . simp at h
theorem oD{s:S8}{n:Nat}(h:s.length=n)(hn:1<=n):s≠[]:=fun e=>by rw[e]at h;simp only[am3]at h;omega
theorem HI{s:S8}{n:Nat}(h:s.all fL=true)(hl:s.length=n)(h1:1<=n)(h2:n<=18):B7 s=some (oa 0 s):=by unfold B7;rw[if_pos ⟨dN.2 ⟨h,oD hl h1⟩,by omega⟩]
def M5(b:aJ)(a d:Nat):Option (Unit×((Int×Unit)×(Int×Unit)×(Bool×Unit)×Unit)):=some ((),match jj b a d with | some t=>(((oa 0 t:Int),()),(((a+(d+1) / 2:Nat):Int),()),(true,()),()) | none=>((0,()),(0,()),(false,()),()))
theorem ML:O3 []=some ((),((0,()),(false,()),())):=LO [] (amv _)
theorem ahN(b:aJ)(a d:Nat)(hb:Cp b)(ha:a<=b.length)(hd:d=2∨d=3):P5 b a d=M5 b a d:=by
 have bo:=bl;unfold P5 M5;have hc:cond (!(aj (d:Int) 2)) (!(aj (d:Int) 3)) false=false:=by rcases hd with rfl | rfl <;> rfl
 rw[hc,GU b a d hb ha (by omega)];unfold vD;cases ho:jj b a d with
 | none=>refine(bn ML).trans ?_;rfl
 | some t=>obtain⟨h1,h2,h3,h4,h5⟩:=eP ho;have hn:O3 t=_:=LO t (by omega);rw[HI h1 h2 h3 (by omega)]at hn;refine(bn hn).trans ?_;rfl
theorem aeH(b:aJ)(a d:Nat)(hb:Cp b)(ha:a<=b.length)(hd:d=2∨d=3):Nq b a d=M5 b a d:=by
 have bo:=bl;unfold Nq M5;rw[lv,bB.2 (by omega:(2:Int)<=d/\(d:Int)<=3),KH b a d hb ha (by omega)];unfold vD;cases ho:jj b a d with
 | none=>rfl
 | some t=>obtain⟨h1,h2,h3,h4,h5⟩:=eP ho;have hn:Jy t=_:=aaV t (by omega);rw[HI h1 h2 h3 (by omega)]at hn;refine(bn hn).trans ?_;rfl
def dO(no:Int)(s:S8):Bool:=cond (aj (bE no) 1) (cond (aH s) (aj (ae s) (gK no)) false) (cond (aj (bE no) 2) (cond (dF s) (aj (ae s) (gK no)) false) (cond (aj (bE no) 3) (cond (aH s) (de (ae s) 1 (gK no)) false) (cond (aj (bE no) 4) (cond (dF s) (de (ae s) 1 (gK no)) false) (cond (aj (bE no) 5) (cond (dF s) (de (ae s) 1 (gK no)) false) false))))
theorem AR(no:Int)(s:S8)(hs:s.length<=bQ):yh no s=zR (dO no s):=by
 unfold yh dO;rw[wS,AQ];dsimp only[oB];rw[gh s hs,L4 s hs];dsimp only[oB];rw[oP];dsimp only[oB];cases aj (bE no) 1 with
 | true=>rfl
 | false=>
 cases aj (bE no) 2 with
 | true=>rfl
 | false=>
 cases aj (bE no) 3 with
 | true=>
   show zR (cond (aH s) (cl (ae s) (gK no)) false)=zR (cond (aH s) (de (ae s) 1 (gK no)) false);cases hd:aH s with
   | false=>rfl
   | true=>
     have h1:cl 1 (ae s)=true:=by
      have:=(dN.1 hd).2;cases s with
      | nil=>exact absurd rfl this
      | cons x r=>exact amk (by show(1:Int)<=((r.length+1:Nat):Int);omega)
     unfold de;rw[h1];try rfl
 | false=>
 cases aj (bE no) 4 with
 | true=>cases dF s <;> rfl
 | false=>
 cases aj (bE no) 5 with
 | true=>cases dF s <;> rfl
 | false=>rfl
theorem HL(no:Int)(s:S8)(hs:s.length<=bQ):sH no s=zR (dO no s):=by
 unfold sH dO;rw[SP,jm s hs,VF s hs];dsimp only[oB];rw[lv];dsimp only[oB];show cond (aj (bE no) 1) _ (cond (aj (bE no) 2) _ (cond (aj (bE no) 3) _ (cond (aj (bE no) 4) _ (cond (aj (bE no) 5) _ _))))=_;cases aj (bE no) 1 with
 | true=>rfl
 | false=>
 cases aj (bE no) 2 with
 | true=>rfl
 | false=>
 cases aj (bE no) 3 with
 | true=>cases aH s <;> rfl
 | false=>
 cases aj (bE no) 4 with
 | true=>cases dF s <;> rfl
 | false=>
 cases aj (bE no) 5 with
 | true=>cases dF s <;> rfl
 | false=>rfl
def ug(b:aJ)(a n:Nat):Option (S8×Nat):=if a+n<=b.length then (bif dF (strOf (gT b a n))then some (strOf (gT b a n),a+n)else none)else none
def vN(b:aJ)(a n:Nat):Option (S8×Nat):=(jj b a n).map fun s=>(s,a+(n+1) / 2)
def Ec(b:aJ)(a d n:Nat)(f:Nat->Nat->Option (S8×Nat)):Option (S8×Nat):=match jj b a d with
 | some t=>if 1<=oa 0 t/\oa 0 t<=n then f (a+(d+1) / 2) (oa 0 t)else none
 | none=>none
def rK(b:aJ)(a:Nat)(no:Int):Option (S8×Nat):=
 if bE no=1 then vN b a (gK no).toNat else if bE no=2 then ug b a (gK no).toNat
 else if bE no=3 then Ec b a 2 (gK no).toNat (vN b)else if bE no=4 then Ec b a 2 (gK no).toNat (ug b)
 else if bE no=5 then Ec b a 3 (gK no).toNat (ug b)else none
def pC(o:Option (S8×Nat)):Option (Unit×((S8×Unit)×(Int×Unit)×(Bool×Unit)×Unit)):=some ((),match o with | some s=>((s.1,()),((s.2:Int),()),(true,()),()) | none=>(([],()),(0,()),(false,()),()))
theorem nU(p:aJ):(strOf p).length=p.length:=by unfold strOf;exact anO _
theorem L2(b:aJ)(a n:Nat):(match vD (jj b a n) ((a+(n+1) / 2:Nat):Int)with | some y=>some ((),(y.2.1,y.2.2.1,y.2.2.2.1,())) | none=>none)=pC (vN b a n):=by unfold vD vN pC;cases jj b a n <;> rfl
noncomputable def WX(b:aJ)(a n:Int):Option (Unit×((S8×Unit)×(Int×Unit)×(Bool×Unit)×Unit)):=
 cond (cond (aE (ae b) a) true (aE (bf .i64 (ae b) a) n)) (some ((),(([],()),(0,()),(false,()),()))) (cond (eY a (ak .i64 a n) b) (Option.bind (DL (strOf (sub b a (ak .i64 a n)))) fun y=>cond (!y.2.1.1) (some ((),(([],()),(0,()),(false,()),()))) (cond (eY a (ak .i64 a n) b) (some ((),((strOf (sub b a (ak .i64 a n)),()),(ak .i64 a n,()),(true,()),()))) none)) none)
theorem Rc(b:aJ)(a n:Nat)(hb:Cp b)(ha:a<=b.length)(hn:n<=1048576) :
 WX b a n=pC (ug b a n):=by
 have bo:=bl;have hl:=hb.1;have e:bf .i64 (ae b) (a:Int)=(b.length:Int)-a:=bG (by show -4611686018427387904<=(b.length:Int)-a;omega) (by show(b.length:Int)-a<=_;omega);have e2:ak .i64 (a:Int) (n:Int)=((a+n:Nat):Int):=by rw[bd (by omega) (by omega)];omega
 unfold ug WX;rw[e,e2,aF (a:=ae b) (b:=(a:Int)) (by show ¬ (b.length:Int)<a;omega)];by_cases h:a+n<=b.length;rotate_left
 . rw[if_neg h,aR (by omega)];try rfl
 have hs:strOf (sub b (a:Int) ((a+n:Nat):Int))=strOf (gT b a n):=amP strOf (Qo b a n);rw[if_pos h,aF (by omega),LP h,hs,L4 _ (by rw[nU,pj h];omega)];dsimp only[oB,oF,oT];cases dF (strOf (gT b a n)) <;> rfl
theorem ahv(b:aJ)(a:Nat)(no:Int)(hb:Cp b)(ha:a<=b.length):g80 b a no=pC (rK b a no):=by
 have bo:=bl;have hl:=hb.1;obtain⟨n,hn,hk⟩:=kinds no;have h0:aE (a:Int) 0=false:=aF (by omega)
 have aeg:∀(d:Nat) (w:Int) (f:Nat->Nat->Option (S8×Nat)) (F:Int->Int->Option (Unit×((S8×Unit)×(Int×Unit)×(Bool×Unit)×Unit))),(d=2∨d=3)->(∀ a' k:Nat,a'<=b.length->k<=1048576->F (a':Int) (k:Int)=pC (f a' k)) ->
  (Option.bind (P5 b a d) fun y5=>cond (!y5.2.2.2.1.1) (some ((),(([],()),(0,()),(false,()),()))) (Option.bind (uI y5.2.1.1 1 (n:Int)) fun y6=>cond (!y6.2.1.1) (some ((),(([],()),(0,()),(false,()),()))) (F y5.2.2.1.1 y5.2.1.1)))=pC (Ec b a d n f):=by
  intro d w f F hd hF;rw[ahN b a d hb ha hd];unfold M5 Ec;cases ho:jj b a d with
  | none=>rfl
  | some t=>
    obtain⟨h1,h2,h3,h4,h5⟩:=eP ho;have hv:=DB t 0 0 h1 (by decide);have hv2:oa 0 t<1000:=amG hv (by rw[amt,h2];exact aov (by decide) (by omega:d<=3));dsimp only[oB];rw[oP];dsimp only[oB];by_cases kL:1<=oa 0 t/\oa 0 t<=n
    . rw[if_pos kL,bB.2 (by omega)];exact hF _ _ h5 (by omega)
    . rw[if_neg kL];have:de (oa 0 t:Int) 1 (n:Int)=false:=by
       cases h:de (oa 0 t:Int) 1 (n:Int)with
       | false=>rfl
       | true=>have:=bB.1 h;omega
      rw[this];try rfl
 unfold g80 rK;rw[wS,AQ,hn,h0];have It:Int.toNat (n:Int)=n:=ano n;rcases hk with ⟨hk,hz⟩ | ⟨hk,hz⟩ | ⟨hk,hz⟩ | ⟨hk,hz⟩ | ⟨hk,hz⟩ | ⟨hk,hz⟩
 . rw[hk];try rfl
 . rw[hk,It];show(Option.bind (N6 b a n) fun y=>some ((),(y.2.1,y.2.2.1,y.2.2.2.1,())))=pC (vN b a n);rw[GU b a n hb ha (by omega),<- L2];try rfl
 . rw[hk,It];exact Rc b a n hb ha (by omega)
 . rw[hk,It];exact aeg 2 0 (vN b) (fun a' k=>Option.bind (N6 b a' k) fun y=>some ((),(y.2.1,y.2.2.1,y.2.2.2.1,()))) (.inl rfl) fun a' k rX Fg=>by show(Option.bind (N6 b (a':Int) (k:Int)) _)=_;rw[GU b a' k hb rX Fg,<- L2];try rfl
 . rw[hk,It];exact aeg 2 0 (ug b) (WX b) (.inl rfl) fun a' k rX Fg=>Rc b a' k hb rX Fg
 . rw[hk,It];exact aeg 3 0 (ug b) (WX b) (.inr rfl) fun a' k rX Fg=>Rc b a' k hb rX Fg
noncomputable def Oj(b:aJ)(no a n:Int):Option (Unit×((S8×Unit)×(Int×Unit)×(Bool×Unit)×Unit)):=
 Option.bind (Pz b a n) fun y5=>cond (!y5.2.2.2.1.1) (some ((),(([],()),(0,()),(false,()),()))) (Option.bind (sH no y5.2.1.1) fun y6=>cond (!y6.2.1.1) (some ((),(([],()),(0,()),(false,()),()))) (some ((),(y5.2.1,y5.2.2.1,(true,()),()))))
noncomputable def GQ(b:aJ)(no a n:Int):Option (Unit×((S8×Unit)×(Int×Unit)×(Bool×Unit)×Unit)):=
 Option.bind (EF b a n) fun y5=>cond (!y5.2.2.1.1) (some ((),(([],()),(0,()),(false,()),()))) (Option.bind (sH no (strOf y5.2.1.1)) fun y6=>cond (!y6.2.1.1) (some ((),(([],()),(0,()),(false,()),()))) (some ((),((strOf y5.2.1.1,()),(ak .i64 a n,()),(true,()),()))))
theorem L8(b:aJ)(no:Int)(a n:Nat)(hb:Cp b)(ha:a<=b.length)(hn:n<=1048576):Oj b no a n=pC ((vN b a n).filter fun s=>dO no s.1):=by
 have bo:=bl;unfold Oj vN;rw[KH b a n hb ha hn];unfold vD;cases ho:jj b a n with
 | none=>rfl
 | some s=>obtain⟨h1,h2,h3,h4,h5⟩:=eP ho;dsimp only[oB];rw[HL no s (by omega)];dsimp only[oB,Option.map_some];rw[aof];dsimp only;cases dO no s <;> rfl
def Nh(b:aJ)(a n:Nat):Option (S8×Nat):=if a+n<=b.length then some (strOf (gT b a n),a+n)else none
theorem yt(b:aJ)(no:Int)(a n:Nat)(hb:Cp b)(ha:a<=b.length)(hn:n<=1048576):GQ b no a n=pC ((Nh b a n).filter fun s=>dO no s.1):=by
 have bo:=bl;have hl:=hb.1;unfold GQ Nh;rw[DF b a n hb.1 ha hn];by_cases h:a+n<=b.length;rotate_left
 . rw[if_neg h,if_neg h];try rfl
 rw[if_pos h,if_pos h,aof];have hf:=HL no (strOf (gT b a n)) (by rw[nU,pj h];omega);refine(bn hf).trans ?_;have e2:ak .i64 (a:Int) (n:Int)=((a+n:Nat):Int):=by rw[bd (by omega) (by omega)];omega
 show cond (!(dO no (strOf (gT b a n)))) _ (some ((),((_,()),(ak .i64 (a:Int) (n:Int),()),(true,()),())))=_;rw[e2];dsimp only;cases dO no (strOf (gT b a n)) <;> rfl
theorem Sg(b:aJ)(a d:Nat)(hb:Cp b)(ha:a<=b.length)(hd:d=2∨d=3)(F:Int->Int->Option (Unit×((S8×Unit)×(Int×Unit)×(Bool×Unit)×Unit)))(f:Nat->Nat->Option (S8×Nat))(n:Nat)
 (hF:∀ a' k:Nat,a'<=b.length->k<=1048576->F (a':Int) (k:Int)=pC (if 1<=k/\k<=n then f a' k else none)) :
 (Option.bind (Nq b a d) fun y4=>cond (!y4.2.2.2.1.1) (some ((),(([],()),(0,()),(false,()),()))) (F y4.2.2.1.1 y4.2.1.1))=pC (Ec b a d n f):=by
 rw[aeH b a d hb ha hd];unfold M5 Ec;cases ho:jj b a d with
 | none=>rfl
 | some t=>obtain⟨h1,h2,h3,h4,h5⟩:=eP ho;have hv:=DB t 0 0 h1 (by decide);have hv2:oa 0 t<1000:=amG hv (by rw[amt,h2];exact aov (by decide) (by omega:d<=3));exact hF _ _ h5 (by omega)
theorem lT{s:S8}{n:Nat}(h:s.length=n):ae s=(n:Int):=by show(s.length:Int)=n;rw[h]
theorem vH{k n:Nat}:de (k:Int) 1 (n:Int)=decide (1<=k/\k<=n):=by
 by_cases h:1<=k/\k<=n
 . rw[amk h];exact bB.2 (by omega)
 . rw[amF h];cases h2:de (k:Int) 1 (n:Int)with
   | false=>rfl
   | true=>have:=bB.1 h2;omega
theorem uU{no:Int}{n:Nat}(hn:gK no=n)(s:S8):(bE no=1->dO no s=cond (aH s) (aj (ae s) (n:Int)) false)/\(bE no=2->dO no s=cond (dF s) (aj (ae s) (n:Int)) false)/\(bE no=3->dO no s=cond (aH s) (de (ae s) 1 (n:Int)) false) /\
 ((bE no=4∨bE no=5)->dO no s=cond (dF s) (de (ae s) 1 (n:Int)) false):=by
 unfold dO;rw[hn];refine⟨fun h=>by rw[h];try rfl,fun h=>by rw[h];try rfl,fun h=>by rw[h];try rfl,fun h=>?_⟩;rcases h with h | h <;> (rw[h];try rfl)
theorem LZ{b:aJ}{no:Int}{n:Nat}(hn:gK no=n)(hk:bE no=4∨bE no=5)(a k:Nat):(Nh b a k).filter (fun s=>dO no s.1)=if 1<=k/\k<=n then ug b a k else none:=by
 unfold Nh ug;by_cases h:a+k<=b.length;rotate_left
 . rw[if_neg h,if_neg h];simp
 rw[if_pos h,if_pos h,aof];dsimp only;rw[(uU hn _).2.2.2 hk,lT (by rw[nU,pj h]:(strOf (gT b a k)).length=k),vH];by_cases kL:1<=k/\k<=n
 . rw[amk kL,if_pos kL];cases dF (strOf (gT b a k)) <;> rfl
 . rw[amF kL,if_neg kL];cases dF (strOf (gT b a k)) <;> rfl
theorem afD(b:aJ)(a:Nat)(no:Int)(hb:Cp b)(ha:a<=b.length):Ql b a no=pC (rK b a no):=by
 have bo:=bl;have hl:=hb.1;obtain⟨n,hn,hk⟩:=kinds no;have It:Int.toNat (n:Int)=n:=ano n;have hlen:He no=zR (cond (aj (bE no) 5) 3 2):=by unfold He;rw[tr];dsimp only[oB];cases aj (bE no) 5 <;> rfl
 have base:Ql b a no=cond (cond (cond (aj (bE no) 3) true (aj (bE no) 4)) true (aj (bE no) 5)) (Option.bind (Nq b a (cond (aj (bE no) 5) 3 2)) fun y4=>cond (!y4.2.2.2.1.1) (some ((),(([],()),(0,()),(false,()),()))) (cond (cond (aj (bE no) 1) true (aj (bE no) 3)) (Oj b no y4.2.2.1.1 y4.2.1.1) (GQ b no y4.2.2.1.1 y4.2.1.1)))
  (cond (cond (aj (bE no) 1) true (aj (bE no) 3)) (Oj b no a (n:Int)) (GQ b no a (n:Int))):=by
  unfold Ql;rw[P0,tr,hlen,hn];try rfl
 rw[base];unfold rK;rw[hn,It];rcases hk with ⟨hk,hz⟩ | ⟨hk,hz⟩ | ⟨hk,hz⟩ | ⟨hk,hz⟩ | ⟨hk,hz⟩ | ⟨hk,hz⟩
 . rw[hk];show GQ b no a (n:Int)=pC none;rw[yt b no a n hb ha (by omega)];have:∀ s,dO no s=false:=fun s=>by unfold dO;rw[hk];try rfl
   unfold Nh;by_cases h:a+n<=b.length
   . rw[if_pos h,aof,this];try rfl
   . rw[if_neg h];try rfl
 . rw[hk];show Oj b no a (n:Int)=pC (vN b a n);rw[L8 b no a n hb ha (by omega)];unfold vN;cases ho:jj b a n with
   | none=>rfl
   | some s=>obtain⟨h1,h2,h3,h4,h5⟩:=eP ho;rw[amI,aof];dsimp only;rw[(uU hn s).1 hk,dN.2 ⟨h1,oD h2 h3⟩,lT h2,bX];try rfl
 . rw[hk];show GQ b no a (n:Int)=pC (ug b a n);rw[yt b no a n hb ha (by omega)];unfold Nh ug;by_cases h:a+n<=b.length;rotate_left
   . rw[if_neg h,if_neg h];try rfl
   rw[if_pos h,if_pos h,aof];dsimp only;rw[(uU hn _).2.1 hk,lT (by rw[nU,pj h]:(strOf (gT b a n)).length=n),bX];cases dF (strOf (gT b a n)) <;> rfl
 . rw[hk];exact Sg b a 2 hb ha (.inl rfl) (Oj b no) (vN b) n fun a' k rX Fg=>by
    rw[L8 b no a' k hb rX Fg];unfold vN;cases ho:jj b a' k with
    | none=>show pC none=pC (if _ then none else none);rw[ite_self]
    | some s=>
      obtain⟨h1,h2,h3,h4,h5⟩:=eP ho;rw[amI,aof];dsimp only;rw[(uU hn s).2.2.1 hk,dN.2 ⟨h1,oD h2 h3⟩,lT h2,vH];by_cases kL:1<=k/\k<=n
      . rw[amk kL,if_pos kL];try rfl
      . rw[amF kL,if_neg kL];try rfl
 . rw[hk];exact Sg b a 2 hb ha (.inl rfl) (GQ b no) (ug b) n fun a' k rX Fg=>by rw[yt b no a' k hb rX Fg,LZ hn (.inl hk)]
 . rw[hk];exact Sg b a 3 hb ha (.inr rfl) (GQ b no) (ug b) n fun a' k rX Fg=>by rw[yt b no a' k hb rX Fg,LZ hn (.inr hk)]
theorem wh{b:aJ}{a:Nat}{no:Int}{s:S8}{e:Nat}(ha:a<=b.length)(h:rK b a no=some (s,e)):dO no s=true/\s.length<=60/\e<=b.length:=by
 obtain⟨n,hn,hk⟩:=kinds no;have It:Int.toNat (n:Int)=n:=ano n;have num:∀ a k,vN b a k=some (s,e)->s.all fL=true/\s.length=k/\1<=k/\e<=b.length:=fun a k h=>by unfold vN at h;obtain⟨q,hq,h⟩:=anT.1 h;cases h;obtain⟨h1,h2,h3,h4,h5⟩:=eP hq;exact⟨h1,h2,h3,h5⟩
 have txt:∀ a k,ug b a k=some (s,e)->dF s=true/\s.length=k/\e<=b.length:=fun a k h=>by
  unfold ug at h;split at h
  . rename_i hl;cases hp:dF (strOf (gT b a k))with
    | false=>rw[hp]at h;simp at h
    | true=>rw[hp]at h;cases h;exact⟨hp,by rw[nU,pj hl],hl⟩
  . simp at h
 have var:∀ d f,Ec b a d n f=some (s,e)->∃ a' k,1<=k/\k<=n/\f a' k=some (s,e):=fun d f h=>by
  unfold Ec at h;split at h
  . split at h
    . rename_i kL;exact⟨_,_,kL.1,kL.2,h⟩
    . simp at h
  . simp at h
 unfold rK at h;rw[hn,It]at h;rcases hk with ⟨hk,hz⟩ | ⟨hk,hz⟩ | ⟨hk,hz⟩ | ⟨hk,hz⟩ | ⟨hk,hz⟩ | ⟨hk,hz⟩ <;> rw[hk]at h
 . simp at h
 . obtain⟨h1,h2,h3,h4⟩:=num _ _ h;exact⟨by rw[(uU hn s).1 hk,dN.2 ⟨h1,oD h2 h3⟩,lT h2,bX];try rfl,by omega,h4⟩
 . obtain⟨h1,h2,h4⟩:=txt _ _ h;exact⟨by rw[(uU hn s).2.1 hk,h1,lT h2,bX];try rfl,by omega,h4⟩
 . obtain⟨a',k,k1,k2,h⟩:=var _ _ h;obtain⟨h1,h2,h3,h4⟩:=num _ _ h;exact⟨by rw[(uU hn s).2.2.1 hk,dN.2 ⟨h1,oD h2 h3⟩,lT h2,vH,amk ⟨k1,k2⟩];try rfl,by omega,h4⟩
 . obtain⟨a',k,k1,k2,h⟩:=var _ _ h;obtain⟨h1,h2,h4⟩:=txt _ _ h;exact⟨by rw[(uU hn s).2.2.2 (.inl hk),h1,lT h2,vH,amk ⟨k1,k2⟩];try rfl,by omega,h4⟩
 . obtain⟨a',k,k1,k2,h⟩:=var _ _ h;obtain⟨h1,h2,h4⟩:=txt _ _ h;exact⟨by rw[(uU hn s).2.2.2 (.inr hk),h1,lT h2,vH,amk ⟨k1,k2⟩];try rfl,by omega,h4⟩
end Go.Av
