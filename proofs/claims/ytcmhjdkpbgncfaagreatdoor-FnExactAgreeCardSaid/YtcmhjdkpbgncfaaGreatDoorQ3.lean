/- FnExactAgree, a part. -/
import Derived.Test.YtcmhjdkpbgncfaaGreatDoorP1
import Derived.Test.YtcmhjdkpbgncfaaGreatDoorFw4
set_option maxRecDepth 100000
set_option maxHeartbeats 4000000
namespace Go.Av
abbrev aN:=S8×Int×Int×Unit
abbrev cG:=S8×S8×List (Int×Unit)×Unit
abbrev fj:=Int×Int×List (Int×Unit)×List (Int×Unit)×Unit
def cE(a lo hi:Int):Bool:=cond (bM lo a) (bM a hi) false
theorem bl{a lo hi:Int}:cE a lo hi=true↔lo<=a/\a<=hi:=by unfold cE bM;by_cases h:lo<=a <;> simp[h]
theorem mo(a lo hi:Int):rM a lo hi=zR (cE a lo hi):=rfl
theorem jS(a lo hi:Int):gQ a lo hi=zR (cE a lo hi):=rfl
def bI(a:Int):Bool:=cE a 0 4611686018427387904
theorem ni(a:Int):A4 a=zR (bI a):=rfl
theorem AN(a:Int):Le a=zR (bI a):=rfl
def a7(a:Int):Bool:=cE a 0 1000000000
theorem gN(a:Int):He a=zR (a7 a):=rfl
theorem gL(a:Int):Jy a=zR (a7 a):=rfl
def er(x:UInt8):Bool:=cond (aG (x.toNat:Int) 48) false (!(aG 57 (x.toNat:Int)))
theorem cl{x:UInt8}:er x=true↔48<=x.toNat/\x.toNat<=57:=by
 unfold er aG;by_cases h:(x.toNat:Int)<48
 . simp[h]; omega
 . by_cases h2:(57:Int)<x.toNat
   . simp[h,h2]; omega
   . simp[h,h2]; omega
def aF(s:S8):Bool:=cond (s.all er) (aG 0 (ae s)) false
theorem fe(s:S8)(hs:s.length<=bG):Eh s=zR (aF s):=by
 unfold Eh;have h:=aL (step:=yO xK) s (fun i (_:Unit)=>(s,((i:Nat):Int),())) (fun _ x _=>bif er x then Sum.inl ()else .inr (.inr (false,()))) (fun _=> .inl (s,(s.length:Int),())) (a0:=()) (fun i x a hx=>by
  have hlt:=ai hx;show xK s (i:Int)=_;unfold xK er;rw[aI hx,az hx,eX hx,aS (by omega)];dsimp only[oT];cases aG (x.toNat:Int) 48 <;> cases aG 57 (x.toNat:Int) <;> rfl) (fun a=>by
  show xK s (s.length:Int)=_;unfold xK;rw[aA rfl];try rfl)
 rw[iW]at h;have h':SX s 0=_:=h;rw[h'];unfold aF;cases s.all er <;> rfl
theorem gS(s:S8)(hs:s.length<=bG):tP s=zR (aF s):=by
 unfold tP;have h:=aL (step:=iT qE) s (fun i (_:Unit)=>(s,ae s,((i:Nat):Int),())) (fun _ x _=>bif er x then Sum.inl ()else .inr (.inr (false,()))) (fun _=> .inl (s,ae s,(s.length:Int),())) (a0:=()) (fun i x a hx=>by
  have hlt:=ai hx;show qE s (ae s) (i:Int)=_;unfold qE er;rw[aI hx,az hx,eX hx,aS (by omega)];dsimp only[oT];cases aG (x.toNat:Int) 48 <;> cases aG 57 (x.toNat:Int) <;> rfl) (fun a=>by
  show qE s (ae s) (s.length:Int)=_;unfold qE;rw[aA rfl];try rfl)
 rw[iW]at h;have h':Mv s (ae s) 0=_:=h;rw[h'];unfold aF;cases s with
 | nil=>rfl
 | cons x r =>
   have e1:aG 0 (ae (x::r))=true:=aO (by unfold ae; simp only[aeF]; omega);have e2:bk (x::r) []=false:=rfl;cases(x::r).all er
   . rfl
   . dsimp only[oT,oF,oB,oL];rw[e1,e2];try rfl
def jA(x:UInt8):Bool:=cond (aG (x.toNat:Int) 48) (cond (aG (x.toNat:Int) 97) false (!(aG 122 (x.toNat:Int)))) (cond (aG 57 (x.toNat:Int)) (cond (aG (x.toNat:Int) 97) false (!(aG 122 (x.toNat:Int)))) true)
def bf(s:S8):Bool:=cond (s.all jA) (cE (ae s) 1 6) false
theorem kW(s:S8)(hs:s.length<=bG):JS s=zR (bf s):=by
 unfold JS;have h:=aL (step:=yO pN) s (fun i (_:Unit)=>(s,((i:Nat):Int),())) (fun _ x _=>bif jA x then Sum.inl ()else .inr (.inr (false,()))) (fun _=> .inl (s,(s.length:Int),())) (a0:=()) (fun i x a hx=>by
  have hlt:=ai hx;show pN s (i:Int)=_;unfold pN jA;rw[aI hx,az hx,eX hx,aS (by omega)];dsimp only[oT];cases aG (x.toNat:Int) 48 <;> cases aG 57 (x.toNat:Int) <;> cases aG (x.toNat:Int) 97 <;> cases aG 122 (x.toNat:Int) <;> rfl) (fun a=>by
  show pN s (s.length:Int)=_;unfold pN;rw[aA rfl];try rfl)
 rw[iW]at h;have h':Md s 0=_:=h;rw[h'];unfold bf;cases s.all jA <;> rfl
theorem kI(s:S8)(hs:s.length<=bG):D8 s=zR (bf s):=by
 unfold D8;have h:=aL (step:=iT pK) s (fun i (_:Unit)=>(s,ae s,((i:Nat):Int),())) (fun _ x _=>bif jA x then Sum.inl ()else .inr (.inr (false,()))) (fun _=> .inl (s,ae s,(s.length:Int),())) (a0:=()) (fun i x a hx=>by
  have hlt:=ai hx;show pK s (ae s) (i:Int)=_;unfold pK jA;rw[aI hx,az hx,eX hx,aS (by omega)];dsimp only[oT];cases aG (x.toNat:Int) 48 <;> cases aG 57 (x.toNat:Int) <;> cases aG (x.toNat:Int) 97 <;> cases aG 122 (x.toNat:Int) <;> rfl) (fun a=>by
  show pK s (ae s) (s.length:Int)=_;unfold pK;rw[aA rfl];try rfl)
 rw[iW]at h;have h':Ka s (ae s) 0=_:=h;rw[h'];unfold bf;cases s.all jA <;> rfl
def lr(h:aN):Bool:=cond (bf h.1) (cond (cE h.2.1 1 9007199254740992) (a7 h.2.2.1) false) false
theorem UM(h:aN)(hs:h.1.length<=bG):Rl h=zR (lr h):=by unfold Rl lr;simp only[kW _ hs,mo,gN,oB];cases bf h.1 <;> cases cE h.2.1 1 9007199254740992 <;> rfl
theorem V0(h:aN)(hs:h.1.length<=bG):Qd h=zR (lr h):=by unfold Qd lr;simp only[kI _ hs,jS,gL,oB];cases bf h.1 <;> cases cE h.2.1 1 9007199254740992 <;> rfl
def ff(xs:List aN)(i:Nat)(x:aN):Bool:=cond (lr x) (cond (aG 0 (i:Int)) (yK (gt ([],0,0,()) xs ((i:Int)-1)).1 x.1) true) false
def cU(xs:List aN):Bool:=cond (allI (ff xs) 0 xs) (bM (ae xs) 4) false
theorem pB:∀(s t:S8),(Op.bytesLess s t||bk s t)= !(Op.bytesLess t s)
 | [],[]=>rfl
 | [],_::_=>rfl
 | _::_,[]=>rfl
 | a::s,b::t=>by
   have ih:=pB s t;have e:bk (a::s) (b::t)=(a == b&&bk s t):=rfl;show((decide (a<b)||(a == b&&Op.bytesLess s t))||bk (a::s) (b::t))= !(decide (b<a)||(b == a&&Op.bytesLess t s));rw[e];rcases agX a.toNat b.toNat with h | h | h
   . have h1:a<b:=agq.2 h;have h2:¬ b<a:=fun hh=>by have:=agq.1 hh; omega
     have h3:(b == a)=false:=by rw[beq_eq_false_iff_ne]; intro hh; subst hh; omega
     simp[h1,h2,h3]
   . have h1:a=b:=UInt8.toNat_inj.1 h;subst h1;have h2:¬ a<a:=fun hh=>by have:=agq.1 hh; omega
     simpa[h2]using ih
   . have h1:¬ a<b:=fun hh=>by have:=agq.1 hh; omega
     have h2:b<a:=agq.2 h;have h3:(a == b)=false:=by rw[beq_eq_false_iff_ne]; intro hh; subst hh; omega
     simp[h1,h2,h3]
theorem Gw(s t:S8):leS s t= !(yK t s):=pB s t
def qw(xs:List aN):Prop:=xs.length<=bG/\∀ y∈xs,y.1.length<=bG
theorem mw{α:Type}{xs:List α}{i:Nat}{x:α}(hx:xs[i]? = some x)(h:0<i):aZ ((i:Int)-1) xs=true:=by
 have:=ai hx;have e:(i:Int)-1=((i-1:Nat):Int):=by omega
 rw[e]; exact fK (by omega)
theorem Bj(xs:List aN)(hb:qw xs):EC xs=zR (cU xs):=by
 have hbig:=bb;unfold EC;have h:=aL (step:=da qL) xs (fun i (_:Unit)=>(xs,xs,ae xs,((i:Nat):Int),())) (fun i x _=>bif ff xs i x then Sum.inl ()else .inr (.inr (false,()))) (fun _=> .inl (xs,xs,ae xs,(xs.length:Int),())) (a0:=()) (fun i x a hx=>by
  have hlt:=ai hx;have hl:=hb.1;show qL xs xs (ae xs) (i:Int)=_;unfold qL ff;rw[aI hx,az hx,aH _ hx];dsimp only[oT];rw[UM x (hb.2 x (aet hx)),aS (by omega)];dsimp only[oB];cases lr x with
  | false=>rfl
  | true =>
    by_cases h0:0<i
    . rw[aO (show(0:Int)<i by omega),bp (by omega) (by omega),mw hx h0];dsimp only[oT,oF,oN];have e:gt d192 xs ((i:Int)-1)=gt ([],0,0,()) xs ((i:Int)-1):=rfl;rw[e];cases yK (gt ([],0,0,()) xs ((i:Int)-1)).1 x.1 <;> rfl
    . rw[aJ (show ¬ (0:Int)<i by omega)];try rfl) (fun a=>by
  show qL xs xs (ae xs) (xs.length:Int)=_;unfold qL;rw[aA rfl];try rfl)
 rw[fF]at h;have h':Lk xs xs (ae xs) 0=_:=h;rw[h'];unfold cU;cases allI (ff xs) 0 xs <;> rfl
theorem Bg(xs:List aN)(hb:qw xs):H2 xs=zR (cU xs):=by
 have hbig:=bb;unfold H2;have h:=aL (step:=da pW) xs (fun i (_:Unit)=>(xs,xs,ae xs,((i:Nat):Int),())) (fun i x _=>bif ff xs i x then Sum.inl ()else .inr (.inr (false,()))) (fun _=> .inl (xs,xs,ae xs,(xs.length:Int),())) (a0:=()) (fun i x a hx=>by
  have hlt:=ai hx;have hl:=hb.1;show pW xs xs (ae xs) (i:Int)=_;unfold pW ff;rw[aI hx,az hx,aH _ hx];dsimp only[oT];rw[V0 x (hb.2 x (aet hx)),aS (by omega)];dsimp only[oB];cases lr x with
  | false=>rfl
  | true =>
    by_cases h0:0<i
    . rw[aO (show(0:Int)<i by omega),bp (by omega) (by omega),mw hx h0];dsimp only[oT,oF,oN];rw[Gw];have e:gt d192 xs ((i:Int)-1)=gt ([],0,0,()) xs ((i:Int)-1):=rfl;rw[e];cases yK (gt ([],0,0,()) xs ((i:Int)-1)).1 x.1 <;> rfl
    . rw[aJ (show ¬ (0:Int)<i by omega)];try rfl) (fun a=>by
  show pW xs xs (ae xs) (xs.length:Int)=_;unfold pW;rw[aA rfl];try rfl)
 rw[fF]at h;have h':KC xs xs (ae xs) 0=_:=h;rw[h'];unfold cU;cases allI (ff xs) 0 xs <;> rfl
def fR(dbl:Bool)(x:UInt8):Int:=cond dbl (cond (aG 9 (2 * ((x.toNat:Int)-48))) (2 * ((x.toNat:Int)-48)-9) (2 * ((x.toNat:Int)-48))) ((x.toNat:Int)-48)
theorem vM(b:Bool){x:UInt8}(h:er x=true):0<=fR b x/\fR b x<=9:=by
 obtain⟨h1,h2⟩:=cl.1 h;unfold fR aG;cases b
 . dsimp only[oF]; omega
 . dsimp only[oT];by_cases h9:9<2 * ((x.toNat:Int)-48)
   . rw[aes h9]; dsimp only[oT]; omega
   . rw[aeL h9]; dsimp only[oF]; omega
def BO(xs:S8)(a:Int×Bool):Int×Bool:=xs.foldl (fun a x=>(a.1+fR a.2 x,!a.2)) a
def KN(xs:S8)(a:Int×Bool):Int×Bool:=xs.foldl (fun a x=>((a.1+fR a.2 x) % 10,!a.2)) a
theorem G0:∀(xs:S8) (a:Int) (b:Bool),KN xs (a % 10,b)=((BO xs (a,b)).1 % 10,(BO xs (a,b)).2)
 | [],a,b=>rfl
 | x::r,a,b=>by
   have e:(a % 10+fR b x) % 10=(a+fR b x) % 10:=by omega
   show KN r ((a % 10+fR b x) % 10,!b)=((BO r (a+fR b x,!b)).1 % 10,(BO r (a+fR b x,!b)).2);rw[e];exact G0 r _ _
def CC(s:S8):Int:=cond (aF s) ((10-(BO s.reverse (0,true)).1 % 10) % 10) (-1)
theorem fm{s:S8}(h:aF s=true):∀ x∈s,er x=true:=by
 unfold aF at h;cases hs:s.all er with
 | true=>exact fun x hx=>aeG.1 hs x hx
 | false=>rw[hs]at h; simp at h
theorem Bb{s:S8}{i:Nat}{x:UInt8}(h:s.reverse[i]? = some x):i<s.length/\s[s.length-1-i]? = some x:=by
 have hl:i<s.length:=by simpa using ai h
 refine⟨hl,?_⟩;rwa [List.getElem?_reverse hl]at h
theorem RM{x:UInt8}(h:er x=true):aW .i64 (dE .i64 (x.toNat:Int)) 48=(x.toNat:Int)-48:=by obtain⟨h1,h2⟩:=cl.1 h;have e:dE .i64 (x.toNat:Int)=(x.toNat:Int):=IntWalk.i64_in _ (by omega);rw[e]; exact bp (by omega) (by omega)
theorem Tg{x:UInt8}(h:er x=true):dE .i64 (aW .u8 (x.toNat:Int) 48)=(x.toNat:Int)-48:=by obtain⟨h1,h2⟩:=cl.1 h;have e:aW .u8 (x.toNat:Int) 48=(x.toNat:Int)-48:=IntWalk.u8_in _ (by omega);rw[e]; exact IntWalk.i64_in _ (by omega)
theorem Gk{a b:Int}(h1 : -4611686018427387904<=a * b)(h2:a * b<=4611686018427387904):vi .i64 a b=a * b:=by unfold vi; rw[IntWalk.i64_in _ (by omega)]
theorem oO{a:Int}(h:0<=a):eF a 10=a % 10:=by unfold eF; exact afG h
theorem Ws(s:S8)(hs:s.length<=bG):Q7 s=zR (CC s):=by
 have hbig:=bb;unfold Q7 CC;rw[fe s hs];dsimp only[oB];cases hd:aF s with
 | false=>rfl
 | true =>
 have hall:=fm hd
 have h:=aY (step:=da tD) s.reverse (fun i (a:Int×Bool)=>(s,a.1,a.2,(s.length:Int)-1-((i:Nat):Int),())) (fun _ x a=>Sum.inl ((a.1+fR a.2 x) % 10,!a.2)) (fun a=> .inl (s,a.1,a.2,(-1:Int),()))
  (fun _ a=>0<=a.1/\a.1<10) (a0:=(0,true)) ⟨by decide,by decide⟩ (fun i x a hx ha=>by
    obtain⟨hlt,hx'⟩:=Bb hx;have hdx:=hall x (aet hx');have hbd:=vM a.2 hdx;have hdd:=cl.1 hdx;have e:(s.length:Int)-1-(i:Int)=((s.length-1-i:Nat):Int):=by omega
    have e':(s.length:Int)-1-((i+1:Nat):Int)=((s.length-1-i:Nat):Int)-1:=by omega
    obtain⟨a1,a2⟩:=a;show tD s a1 a2 ((s.length:Int)-1-(i:Int))=some (.inl (s,(a1+fR a2 x) % 10,!a2,(s.length:Int)-1-((i+1:Nat):Int),()));rw[e,e'];have hle:bM 0 ((s.length-1-i:Nat):Int)=true:=aes (by omega);have ha:0<=a1/\a1<10:=ha;unfold tD;rw[hle,az hx',eX hx',RM hdx,bp (a:=((s.length-1-i:Nat):Int)) (b:=1) (by omega) (by omega)];have hb:(0<=fR a2 x/\fR a2 x<=9):=hbd;cases a2 with
    | false => have hv:fR false x=(x.toNat:Int)-48:=rfl;dsimp only[oT,oF,oM];rw[cw (by omega) (by omega),oO (by omega),hv]
    | true =>
      dsimp only[oT,oF,oM,oN];rw[Gk (by omega) (by omega)];by_cases h9:9<2 * ((x.toNat:Int)-48)
      . have hv:fR true x=2 * ((x.toNat:Int)-48)-9:=by unfold fR; rw[aO h9];try rfl
        rw[aO h9]; dsimp only[oT,oF,oM]; rw[bp (by omega) (by omega),cw (by omega) (by omega),oO (by omega),hv]
      . have hv:fR true x=2 * ((x.toNat:Int)-48):=by unfold fR; rw[aJ h9];try rfl
        rw[aJ h9]; dsimp only[oT,oF,oM]; rw[cw (by omega) (by omega),oO (by omega),hv]) (fun i x a a' hx ha hf=>by
    simp only[aeO]at hf;subst hf;show 0<=(a.1+fR a.2 x) % 10/\(a.1+fR a.2 x) % 10<10;omega) (fun a ha=>by
    have e:(s.length:Int)-1-((s.reverse.length:Nat):Int) = -1:=by simp; omega
    show tD s a.1 a.2 ((s.length:Int)-1-((s.reverse.length:Nat):Int))=_;rw[e];try rfl)
 rw[bH (fun x a=>((a.1+fR a.2 x) % 10,!a.2))]at h;have h':MN s 0 true ((s.length:Int)-1-((0:Nat):Int))=some (.inl (s,(KN s.reverse (0,true)).1,(KN s.reverse (0,true)).2,(-1:Int),())):=h;have e0:(s.length:Int)-1-((0:Nat):Int)=aW .i64 (ae s) 1:=by rw[bp (by unfold ae; omega) (by unfold ae; omega)]; unfold ae; omega
 have eT:(KN s.reverse (0,true)).1=(BO s.reverse (0,true)).1 % 10:=by have:=G0 s.reverse 0 true;rw[show(0:Int) % 10=0 from rfl]at this;rw[this]
 rw[e0]at h';rw[h',eT];dsimp only[oB,oL,oT,oF,oN];rw[bp (by omega) (by omega),oO (by omega)];try rfl
theorem WO(s:S8)(hs:s.length<=bG):QF s=zR (CC s):=by
 have hbig:=bb;unfold QF CC;rw[gS s hs];dsimp only[oB];cases hd:aF s with
 | false=>rfl
 | true =>
 have hall:=fm hd
 have h:=aY (step:=da tS) s.reverse (fun i (a:Int×Bool)=>(s,a.1,a.2,(s.length:Int)-1-((i:Nat):Int),())) (fun _ x a=>Sum.inl (a.1+fR a.2 x,!a.2)) (fun a=> .inl (s,a.1,a.2,(-1:Int),()))
  (fun i a=>0<=a.1/\a.1<=9 * i) (a0:=(0,true)) ⟨by decide,by decide⟩ (fun i x a hx ha=>by
    obtain⟨hlt,hx'⟩:=Bb hx;have hdx:=hall x (aet hx');have hbd:=vM a.2 hdx;have hdd:=cl.1 hdx;have e:(s.length:Int)-1-(i:Int)=((s.length-1-i:Nat):Int):=by omega
    have e':(s.length:Int)-1-((i+1:Nat):Int)=((s.length-1-i:Nat):Int)-1:=by omega
    obtain⟨a1,a2⟩:=a;show tS s a1 a2 ((s.length:Int)-1-(i:Int))=some (.inl (s,a1+fR a2 x,!a2,(s.length:Int)-1-((i+1:Nat):Int),()));rw[e,e'];have hle:bM 0 ((s.length-1-i:Nat):Int)=true:=aes (by omega);have ha:0<=a1/\a1<=9 * i:=ha;unfold tS;rw[hle,az hx',eX hx',Tg hdx,bp (a:=((s.length-1-i:Nat):Int)) (b:=1) (by omega) (by omega)];have hb:(0<=fR a2 x/\fR a2 x<=9):=hbd;cases a2 with
    | false => have hv:fR false x=(x.toNat:Int)-48:=rfl;dsimp only[oT,oF,oM];rw[cw (by omega) (by omega),hv]
    | true =>
      dsimp only[oT,oF,oM,oN];have em:vi .i64 ((x.toNat:Int)-48) 2=2 * ((x.toNat:Int)-48):=by rw[Gk (by omega) (by omega)]; omega
      rw[em];by_cases h9:9<2 * ((x.toNat:Int)-48)
      . have hv:fR true x=2 * ((x.toNat:Int)-48)-9:=by unfold fR; rw[aO h9];try rfl
        rw[aO h9]; dsimp only[oT,oF,oM]; rw[bp (by omega) (by omega),cw (by omega) (by omega),hv]
      . have hv:fR true x=2 * ((x.toNat:Int)-48):=by unfold fR; rw[aJ h9];try rfl
        rw[aJ h9]; dsimp only[oT,oF,oM]; rw[cw (by omega) (by omega),hv]) (fun i x a a' hx ha hf=>by
    have hbd:=vM a.2 (hall x (aet (Bb hx).2));simp only[aeO]at hf;subst hf;show 0<=a.1+fR a.2 x/\a.1+fR a.2 x<=9 * ((i+1:Nat):Int);omega) (fun a ha=>by
    have e:(s.length:Int)-1-((s.reverse.length:Nat):Int) = -1:=by simp; omega
    show tS s a.1 a.2 ((s.length:Int)-1-((s.reverse.length:Nat):Int))=_;rw[e];try rfl)
 rw[bH (fun x a=>(a.1+fR a.2 x,!a.2))]at h;have h':Nn s 0 true ((s.length:Int)-1-((0:Nat):Int))=some (.inl (s,(BO s.reverse (0,true)).1,(BO s.reverse (0,true)).2,(-1:Int),())):=h;have e0:(s.length:Int)-1-((0:Nat):Int)=aW .i64 (ae s) 1:=by rw[bp (by unfold ae; omega) (by unfold ae; omega)]; unfold ae; omega
 have hS:∀(xs:S8) (a:Int×Bool),(∀ x∈xs,er x=true)->0<=a.1->0<=(BO xs a).1:=by
  intro xs;induction xs with
  | nil=>intro a _ h; exact h
  | cons x r ih => intro a hx h;have:=vM a.2 (hx x (aeI ..));exact ih (a.1+fR a.2 x,!a.2) (fun y hy=>hx y (aeB _ hy)) (by show 0<=a.1+fR a.2 x; omega)
 have h0:=hS s.reverse (0,true) (fun x hx=>hall x (List.mem_reverse.1 hx)) (by decide);rw[e0]at h';rw[h'];dsimp only[oB,oL,oT,oF,oN];rw[oO h0,bp (by omega) (by omega),oO (by omega)];try rfl
def rY(s:S8):Bool:=cond (aF s) (cond (bM 2 (ae s)) (aj (CC (sub s 0 (ae s-1))) (ee s (ae s-1)-48)) false) false
theorem RK{s:S8}(hd:aF s=true)(h:2<=s.length):∃ x,er x=true/\aZ (ae s-1) s=true/\ee s (ae s-1)=(x.toNat:Int)/\dZ 0 (ae s-1) s=true/\(sub s 0 (ae s-1)).length<=s.length:=by
 have e:ae s-1=((s.length-1:Nat):Int):=by unfold ae; omega
 obtain⟨x,hx⟩:∃ x,s[s.length-1]? = some x:=⟨s[s.length-1]'(by omega),by simp⟩;refine⟨x,fm hd x (aet hx),?_,?_,?_,?_⟩
 . rw[e]; exact az hx
 . rw[e]; exact eX hx
 . rw[e]; unfold dZ iF bM;rw[aes (by decide),aes (by omega),aes (by omega)];try rfl
 . rw[e]; unfold sub; simp
theorem Lm(s:S8)(hs:s.length<=bG):QZ s=zR (rY s):=by
 have hbig:=bb;unfold QZ rY;rw[fe s hs];dsimp only[oB];cases hd:aF s with
 | false=>rfl
 | true =>
   by_cases h2:2<=s.length
   . obtain⟨x,h3,h4,h5,h6,h7⟩:=RK hd h2;have e1:bM 2 (ae s)=true:=aes (by unfold ae; omega);have e2:aW .i64 (ae s) 1=ae s-1:=bp (by unfold ae; omega) (by unfold ae; omega);rw[aJ (show ¬ ae s<2 by unfold ae; omega),e1,e2];dsimp only[oT,oF,oN];rw[h6,h4,Ws _ (aeA h7 hs),h5,RM h3];try rfl
   . have e1:bM 2 (ae s)=false:=aeL (by unfold ae; omega);rw[aO (show ae s<2 by unfold ae; omega),e1];try rfl
theorem N7(s:S8)(hs:s.length<=bG):P0 s=zR (rY s):=by
 have hbig:=bb;unfold P0 rY;have e2:aW .i64 (ae s) 1=ae s-1:=bp (by unfold ae; omega) (by unfold ae; omega);dsimp only;rw[gS s hs,e2];dsimp only[oB];by_cases h2:2<=s.length
 . have e1:bM 2 (ae s)=true:=aes (by unfold ae; omega);have e3:bM 1 (ae s-1)=true:=aes (by unfold ae; omega);rw[e1,e3];cases hd:aF s with
   | false=>rfl
   | true => obtain⟨x,h3,h4,h5,h6,h7⟩:=RK hd h2;dsimp only[oT,oF,oN];rw[h6,h4,WO _ (aeA h7 hs),h5,Tg h3];try rfl
 . have e1:bM 2 (ae s)=false:=aeL (by unfold ae; omega);have e3:bM 1 (ae s-1)=false:=aeL (by unfold ae; omega);rw[e1,e3];cases aF s <;> rfl
def eY(s:S8):Bool:=cond (bM (ae s) 19) (rY s) false
theorem xJ(s:S8)(hs:s.length<=bG):tY s=zR (eY s):=by unfold tY eY;rw[Lm s hs];cases bM (ae s) 19 <;> rfl
theorem xS(s:S8)(hs:s.length<=bG):tU s=zR (eY s):=by unfold tU eY;rw[N7 s hs];cases bM (ae s) 19 <;> rfl
def du(a:Int):Int:=if a<0 then 0 else if 4611686018427387904<a then 4611686018427387904 else a
theorem gz(a:Int):0<=du a/\du a<=4611686018427387904:=by
 unfold du;split
 . omega
 . split <;> omega
def eE(a b:Int):Int:=if 4611686018427387904-du b<du a then 4611686018427387904 else du a+du b
theorem vt(a b:Int):0<=eE a b/\eE a b<=4611686018427387904:=by have:=gz a; have:=gz b;unfold eE; split <;> omega
theorem HE(a:Int):K0 a 0 4611686018427387904=zR (du a):=by
 unfold K0 du;by_cases h:a<0
 . rw[aO h,if_pos h];try rfl
 . by_cases h2:4611686018427387904<a
   . rw[aJ h,if_neg h,aO h2,if_pos h2];try rfl
   . rw[aJ h,if_neg h,aJ h2,if_neg h2];try rfl
theorem wm{a:Int}(h:0<=a/\a<=4611686018427387904):bI a=true:=bl.2 h
theorem vg(a b:Int):vT a b=zR (eE a b):=by
 unfold vT Vm eE;have h1:=gz a;have h2:=gz b;rw[HE,HE];dsimp only[oB];rw[ni,ni,wm h1,wm h2,bp (by omega) (by omega)];dsimp only[oB,oN,oF];by_cases h:4611686018427387904-du b<du a
 . rw[aO h,if_pos h];try rfl
 . rw[aJ h,if_neg h,cw (by omega) (by omega)];try rfl
theorem yf(a b:Int):yW a b=zR (eE a b):=by
 have e:∀ x:Int,E1 0 (Oz x 4611686018427387904)=du x:=fun x=>by unfold E1 Oz du;split <;> split <;> (try split) <;> omega
 have h1:=gz a;have h2:=gz b;unfold yW eE;dsimp only;rw[e,e,bp (by omega) (by omega)];by_cases h:4611686018427387904-du b<du a
 . rw[aO h,if_pos h];try rfl
 . rw[aJ h,if_neg h,cw (by omega) (by omega)];try rfl
def rI(xs:List aN):Int:=xs.foldl (fun a h=>eE a h.2.1) 0
theorem Dx(xs:List aN)(hs:xs.length<=bG):Og xs=zR (rI xs):=by
 unfold Og;have h:=aL (step:=da qe) xs (fun i (a:Int)=>(a,xs,ae xs,((i:Nat):Int),())) (fun _ x a=>Sum.inl (eE a x.2.1)) (fun a=> .inl (a,xs,ae xs,(xs.length:Int),())) (a0:=0) (fun i x a hx=>by
  have hlt:=ai hx;show qe a xs (ae xs) (i:Int)=_;unfold qe;rw[aI hx,az hx,aH _ hx,aS (by omega),vg];try rfl) (fun a=>by
  show qe a xs (ae xs) (xs.length:Int)=_;unfold qe;rw[aA rfl];try rfl)
 rw[bH (fun(x:aN) a=>eE a x.2.1)]at h;have h':Kn 0 xs (ae xs) 0=_:=h;rw[h'];try rfl
theorem Dm(xs:List aN)(hs:xs.length<=bG):Nb xs=zR (rI xs):=by
 unfold Nb;have h:=aL (step:=da qA) xs (fun i (a:Int)=>(a,xs,ae xs,((i:Nat):Int),())) (fun _ x a=>Sum.inl (eE a x.2.1)) (fun a=> .inl (a,xs,ae xs,(xs.length:Int),())) (a0:=0) (fun i x a hx=>by
  have hlt:=ai hx;show qA a xs (ae xs) (i:Int)=_;unfold qA;rw[aI hx,az hx,aH _ hx,aS (by omega),yf];try rfl) (fun a=>by
  show qA a xs (ae xs) (xs.length:Int)=_;unfold qA;rw[aA rfl];try rfl)
 rw[bH (fun(x:aN) a=>eE a x.2.1)]at h;have h':Lr 0 xs (ae xs) 0=_:=h;rw[h'];try rfl
def fY(r:fj):Bool:=cond (cE r.1 1 1000) (cond (cE (ae r.2.2.1) 1 8) (cond (aj (ae r.2.2.2.1) (ae r.2.2.1)) (cond (a7 r.2.1) (r.2.2.1.all (fun x=>bI x.1)&&r.2.2.2.1.all (fun x=>bI x.1)) false) false) false) false
def iZ(r:fj):Prop:=r.2.2.1.length<=1048576/\r.2.2.2.1.length<=1048576
theorem ba{a b:Int}:aj a b=true↔a=b:=by simp[aj]
theorem Au(r:fj)(hb:iZ r):Dk r=zR (fY r):=by
 have hbig:=bb;obtain⟨hb1,hb2⟩:=hb;unfold Dk fY;dsimp only;rw[mo,mo,gN];dsimp only[oB];cases cE r.1 1 1000 with
 | false=>rfl
 | true =>
 cases cE (ae r.2.2.1) 1 8 with
 | false=>rfl
 | true =>
 cases he:aj (ae r.2.2.2.1) (ae r.2.2.1)with
 | false=>rfl
 | true =>
 cases a7 r.2.1 with
 | false=>rfl
 | true =>
 have hlen:r.2.2.2.1.length=r.2.2.1.length:=by have:=ba.1 he;unfold ae at this; omega
 dsimp only[oT,oF,oN];have h:=aL (step:=iT qM) (r.2.2.1.zip r.2.2.2.1) (fun i (_:Unit)=>(ae r.2.2.1,((i:Nat):Int),r,())) (fun _ x _=>bif bI x.1.1&&bI x.2.1 then Sum.inl ()else .inr (.inr (false,()))) (fun _=> .inl (ae r.2.2.1,(r.2.2.1.length:Int),r,())) (a0:=()) (fun i x a hx=>by
  have hx':=List.getElem?_zip_eq_some.1 hx;have hlt:=ai hx'.1;show qM (ae r.2.2.1) (i:Int) r=_;unfold qM;rw[aI hx'.1,az hx'.1,az hx'.2,aH _ hx'.1,aH _ hx'.2,ni,ni,aS (by omega)];dsimp only[oT,oB];cases bI x.1.1 <;> cases bI x.2.1 <;> rfl) (fun a=>by
  have e:(r.2.2.1.zip r.2.2.2.1).length=r.2.2.1.length:=by rw[List.length_zip,hlen,Nat.min_self]
  rw[e];show qM (ae r.2.2.1) (r.2.2.1.length:Int) r=_;unfold qM;rw[aA rfl];try rfl)
 rw[iW (fun(x:(Int×Unit)×(Int×Unit))=>bI x.1.1&&bI x.2.1)]at h;have h':MJ (ae r.2.2.1) 0 r=_:=h;rw[h'];have hz:∀(a b:List (Int×Unit)),b.length=a.length->(a.zip b).all (fun x=>bI x.1.1&&bI x.2.1)=(a.all (fun x=>bI x.1)&&b.all (fun x=>bI x.1)):=by
  intro a;induction a with
  | nil=>intro b hb; cases b with | nil=>rfl | cons _ _=>simp at hb
  | cons x a ih =>
    intro b hb;cases b with
    | nil=>simp at hb
    | cons y b => simp only[List.zip_cons_cons,afe];rw[ih b (by simpa using hb)];cases bI x.1 <;> cases bI y.1 <;> simp
 rw[hz _ _ hlen];cases r.2.2.1.all (fun x=>bI x.1)&&r.2.2.2.1.all (fun x=>bI x.1) <;> rfl
theorem MO(a b:List (Int×Unit))(ha:a.length<=1048576)(hb:b.length<=1048576):QR [(a,()),(b,())]=zR (a++b):=by
 have hbig:=bb;unfold QR;have hlen:((a.length+b.length:Nat):Int)=(a.length:Int)+b.length:=by omega
 have h:FW [(a,()),(b,())] 0 [(a,()),(b,())] 2 0=some (.inl ([(a,()),(b,())],(a.length:Int)+b.length,[(a,()),(b,())],2,2,())):=by
  refine dU _ (x':=([(a,()),(b,())],(a.length:Int),[(a,()),(b,())],2,1,())) ?_ (dU _ (x':=([(a,()),(b,())],(a.length:Int)+b.length,[(a,()),(b,())],2,2,())) ?_ (dA _ ?_))
  . show sU [(a,()),(b,())] 0 [(a,()),(b,())] 2 0=_;unfold sU;have e:aw .i64 0 (ae (gt d52 [(a,()),(b,())] 0).1)=(a.length:Int):=by
     show aw .i64 0 (ae a)=_;rw[cw (by unfold ae; omega) (by unfold ae; omega)]; unfold ae; omega
    dsimp only;rw[e,aJ (a:=(a.length:Int)) (b:=0) (by omega)];try rfl
  . show sU [(a,()),(b,())] (a.length:Int) [(a,()),(b,())] 2 1=_;unfold sU;have e:aw .i64 (a.length:Int) (ae (gt d52 [(a,()),(b,())] 1).1)=(a.length:Int)+b.length:=by
     show aw .i64 (a.length:Int) (ae b)=_;rw[cw (by unfold ae; omega) (by unfold ae; omega)]; unfold ae; omega
    dsimp only;rw[e,aJ (a:=(a.length:Int)+b.length) (b:=0) (by omega)];try rfl
  . rfl
 have h1:FW [(a,()),(b,())] 0 [(a,()),(b,())] (ae [(a,()),(b,())]) 0=_:=h;have hg:OL ((a.length:Int)+b.length)=zR []:=by
  unfold OL;dsimp only;rw[aJ (by omega),bp (a:=0) (b:=0) (by decide) (by decide),bp (by omega) (by omega)];by_cases h0:(0:Int)<(a.length:Int)+b.length-(0-0)
  . have e2:mzB 8 ((a.length:Int)+b.length-(0-0))=true:=by
     unfold mzB bM;rw[aes (by omega),aes (by rw[hbig]; omega)];try rfl
    have e3:dZ 0 0 (um d3 ((a.length:Int)+b.length-(0-0)))=true:=by unfold dZ iF bM;rw[aes (by decide),aes (by omega)];try rfl
    rw[aO h0,e2,e3];try rfl
  . rw[aJ h0];try rfl
 have h2:EP [] [(a,()),(b,())] 2 0=some (.inl (a++b,[(a,()),(b,())],2,2,())):=by
  refine dU _ (x':=(a,[(a,()),(b,())],2,1,())) ?_ (dU _ (x':=(a++b,[(a,()),(b,())],2,2,())) ?_ (dA _ ?_))
  . show tF [] [(a,()),(b,())] 2 0=_;unfold tF;have e:a6 8 ([]:List (Int×Unit)) (gt d52 [(a,()),(b,())] 0).1=true:=aey (by show(0+a.length) * 8<=bG; omega);rw[e];try rfl
  . show tF a [(a,()),(b,())] 2 1=_;unfold tF;have e:a6 8 a (gt d52 [(a,()),(b,())] 1).1=true:=aey (by show(a.length+b.length) * 8<=bG; omega);rw[e];try rfl
  . rfl
 have h2':EP [] [(a,()),(b,())] (ae [(a,()),(b,())]) 0=_:=h2;rw[h1];dsimp only[oB,oL];rw[hg];dsimp only[oB,oL];rw[h2'];try rfl
theorem vX(r:fj)(hb:iZ r):Bo r=zR (fY r):=by
 have hbig:=bb;obtain⟨hb1,hb2⟩:=hb;unfold Bo;rw[MO _ _ hb1 hb2];dsimp only[oB];have h:=aL (step:=nD qx) (r.2.2.1++r.2.2.2.1) (fun i (_:Unit)=>(ae r.2.2.1,r.2.2.1++r.2.2.2.1,ae (r.2.2.1++r.2.2.2.1),((i:Nat):Int),r,())) (fun _ x _=>bif bI x.1 then Sum.inl ()else .inr (.inr (false,()))) (fun _=> .inl (ae r.2.2.1,r.2.2.1++r.2.2.2.1,ae (r.2.2.1++r.2.2.2.1),((r.2.2.1++r.2.2.2.1).length:Int),r,())) (a0:=()) (fun i x a hx=>by
  have hlt:=ai hx;rw[aep]at hlt;show qx (ae r.2.2.1) (r.2.2.1++r.2.2.2.1) (ae (r.2.2.1++r.2.2.2.1)) (i:Int) r=_;unfold qx;rw[aI hx,az hx,aH _ hx,AN,aS (by omega)];dsimp only[oT,oB];cases bI x.1 <;> rfl) (fun a=>by
  show qx (ae r.2.2.1) (r.2.2.1++r.2.2.2.1) (ae (r.2.2.1++r.2.2.2.1)) ((r.2.2.1++r.2.2.2.1).length:Int) r=_;unfold qx;rw[aA rfl];try rfl)
 rw[iW (fun(x:Int×Unit)=>bI x.1)]at h;have h':MZ (ae r.2.2.1) (r.2.2.1++r.2.2.2.1) (ae (r.2.2.1++r.2.2.2.1)) 0 r=_:=h;rw[h',List.all_append];unfold fY;cases r.2.2.1.all (fun x=>bI x.1)&&r.2.2.2.1.all (fun x=>bI x.1)with
 | false => cases cE r.1 1 1000 <;> cases cE (ae r.2.2.1) 1 8 <;> cases aj (ae r.2.2.2.1) (ae r.2.2.1) <;> cases a7 r.2.1 <;> rfl
 | true => dsimp only[oT,oB,oL];rw[jS,jS,gL];dsimp only[oB];cases cE r.1 1 1000 <;> cases cE (ae r.2.2.1) 1 8 <;> cases aj (ae r.2.2.2.1) (ae r.2.2.1) <;> cases a7 r.2.1 <;> rfl
theorem lg{r:fj}(h:fY r=true):(1<=r.1/\r.1<=1000)/\(1<=r.2.2.1.length/\r.2.2.1.length<=8)/\r.2.2.2.1.length=r.2.2.1.length/\(0<=r.2.1/\r.2.1<=1000000000):=by
 unfold fY at h;cases h1:cE r.1 1 1000 with
 | false=>rw[h1]at h; simp at h
 | true =>
 cases h2:cE (ae r.2.2.1) 1 8 with
 | false=>rw[h1,h2]at h; simp at h
 | true =>
 cases h3:aj (ae r.2.2.2.1) (ae r.2.2.1)with
 | false=>rw[h1,h2,h3]at h; simp at h
 | true =>
 cases h4:a7 r.2.1 with
 | false=>rw[h1,h2,h3,h4]at h; simp at h
 | true =>
 have a:=bl.1 h1;have b:=bl.1 h2;have c:=ba.1 h3;have d:=bl.1 h4;unfold ae at b c;exact⟨a,⟨by omega,by omega⟩,by omega,d⟩
def j6(s:cG):Bool:=cond (cond (aF s.1) (aj (ae s.1) 6) false) (cond (cond (aF s.2.1) (aj (ae s.2.1) 4) false) (cE (ae s.2.2.1) 1 200) false) false
def L3(s:cG):Prop:=s.1.length<=bG/\s.2.1.length<=bG
theorem VV(s:cG)(hb:L3 s):Pp s=zR (j6 s):=by unfold Pp j6;rw[fe _ hb.1,fe _ hb.2];dsimp only[oB];rw[mo];cases cond (aF s.1) (aj (ae s.1) 6) false <;> cases cond (aF s.2.1) (aj (ae s.2.1) 4) false <;> rfl
theorem Wl(s:cG)(hb:L3 s):PR s=zR (j6 s):=by unfold PR vl j6;rw[gS _ hb.1,gS _ hb.2];dsimp only[oB];rw[jS];cases cond (aF s.1) (aj (ae s.1) 6) false <;> cases cond (aF s.2.1) (aj (ae s.2.1) 4) false <;> rfl
def hE(a b:cG):Bool:=cond (bk a.1 b.1) (bk a.2.1 b.2.1) false
def cR(xs:List cG)(i:Nat)(x:cG):Bool:=cond (j6 x) ((xs.take i).all (fun y=> !hE y x)) false
def dS(xs:List cG):Bool:=cond (allI (cR xs) 0 xs) (bM (ae xs) 6) false
def FN(xs:List cG):Prop:=xs.length<=1048576/\∀ y∈xs,L3 y
theorem yy{α:Type}(xs:List α)(i:Nat):sub xs 0 (i:Int)=xs.take i:=by unfold sub; simp
theorem jj{α:Type}{xs:List α}{i:Nat}(h:i<=xs.length):dZ 0 (i:Int) xs=true:=by unfold dZ iF bM;rw[aes (by decide),aes (by omega),aes (by omega)];try rfl
theorem F7(xs:List cG)(hb:FN xs):g99 xs=zR (dS xs):=by
 have hbig:=bb;have hb1:=hb.1;unfold g99;have inner:∀(i:Nat) (x:cG),i<=xs.length->SV xs xs (ae xs) (i:Int) (xs.take i) (ae (xs.take i)) 0 x=some (bif (xs.take i).all (fun y=> !hE y x)then .inl (xs,xs,ae xs,(i:Int),xs.take i,ae (xs.take i),((xs.take i).length:Int),x,())else .inr (false,())):=fun i x hi=>by
  have hti:(xs.take i).length<=xs.length:=by rw[afd]; exact Nat.min_le_right _ _
  have h:=aL (step:=OJ yG) (xs.take i) (fun j (_:Unit)=>(xs,xs,ae xs,(i:Int),xs.take i,ae (xs.take i),((j:Nat):Int),x,())) (fun _ y _=>bif !hE y x then Sum.inl ()else .inr (.inr (false,()))) (fun _=> .inl (xs,xs,ae xs,(i:Int),xs.take i,ae (xs.take i),((xs.take i).length:Int),x,())) (a0:=()) (fun j y a hy=>by
   have hlt:=ai hy;show yG xs xs (ae xs) (i:Int) (xs.take i) (ae (xs.take i)) (j:Int) x=_;unfold yG hE;rw[aI hy,az hy,aH _ hy,aS (by omega)];dsimp only[oT];cases cond (bk y.1 x.1) (bk y.2.1 x.2.1) false <;> rfl) (fun a=>by
   show yG xs xs (ae xs) (i:Int) (xs.take i) (ae (xs.take i)) ((xs.take i).length:Int) x=_;unfold yG;rw[aA rfl];try rfl)
  rw[iW (fun y=> !hE y x)]at h;exact h
 have h:=aL (step:=da wG) xs (fun i (_:Unit)=>(xs,xs,ae xs,((i:Nat):Int),())) (fun i x _=>bif cR xs i x then Sum.inl ()else .inr (.inr (false,()))) (fun _=> .inl (xs,xs,ae xs,(xs.length:Int),())) (a0:=()) (fun i x a hx=>by
  have hlt:=ai hx;show wG xs xs (ae xs) (i:Int)=_;unfold wG cR;rw[aI hx,az hx,aH _ hx];dsimp only[oT];rw[VV x (hb.2 x (aet hx)),jj (agD hlt),yy];dsimp only[oT,oB];rw[inner i x (agD hlt)];cases j6 x with
  | false=>rfl
  | true =>
    cases(xs.take i).all (fun y=> !hE y x)with
    | false=>rfl
    | true =>
      dsimp only[oT,oF,oN,oB,oL];rw[aS (by omega)];try rfl) (fun a=>by
  show wG xs xs (ae xs) (xs.length:Int)=_;unfold wG;rw[aA rfl];try rfl)
 rw[fF]at h;have h':Sl xs xs (ae xs) 0=_:=h;rw[h'];unfold dS;cases allI (cR xs) 0 xs <;> rfl
def cX{α:Type}(p:α->Bool):Nat->List α->Int
 | _,[] => -1
 | i,x::r=>bif p x then (i:Int)else cX p (i+1) r
theorem gf{α Y:Type}(p:α->Bool)(y:Int->Y)(z:Y)(out:Y->Int)(hy:∀ n,out (y n)=n)(hz:out z = -1):∀(xs:List α) (i:Nat),out (ko (fun i x _=>bif p x then Sum.inr (y (i:Int))else .inl ()) (fun _=>z) i xs ())=cX p i xs
 | [],_=>hz
 | x::r,i=>by
   rw[ko,cX];cases hp:p x with
   | true=>exact hy _
   | false=>exact gf p y z out hy hz r (i+1)
theorem rX{α:Type}(p:α->Bool):∀(xs:List α) (i:Nat),cX p i xs = -1∨((i:Int)<=cX p i xs/\cX p i xs<i+xs.length)
 | [],_=> .inl rfl
 | x::r,i=>by
   rw[cX];cases p x with
   | true=>right; simp only[oT,aeF]; omega
   | false =>
     rcases rX p r (i+1)with h | h
     . exact .inl h
     . right; simp only[oF,aeF]; omega
theorem Dd{α:Type}(p:α->Bool):∀ {xs:List α} {i:Nat} {x:α} (k:Nat),xs[i]? = some x->p x=true->(cX p k xs=((k+i:Nat):Int)↔(xs.take i).all (fun y=> !p y)=true)
 | [],i,x,k,h,_=>by simp at h
 | y::r,0,x,k,h,hp=>by simp only[aeu,aen]at h;subst h;rw[cX,hp]; simp
 | y::r,i+1,x,k,h,hp=>by
   have ih:=Dd p (xs:=r) (i:=i) (x:=x) (k+1) (by simpa using h) hp;rw[cX,ag8,afe];cases hy:p y with
   | true => simp only[oT,oN,Bool.false_and,ae5,iff_false];omega
   | false => simp only[oF,oM,agh];rw[<- ih,show k+1+i=k+(i+1)by omega]
theorem Cu(xs:List cG)(a b:S8)(hs:xs.length<=1048576):L8 xs a b=zR (cX (fun y=>cond (bk y.1 a) (bk y.2.1 b) false) 0 xs):=by
 have hbig:=bb;unfold L8 Vh;have h:=aL (step:=da qy) xs (fun i (_:Unit)=>(xs,((a,()),(b,()),()),ae xs,((i:Nat):Int),())) (fun i y _=>bif cond (bk y.1 a) (bk y.2.1 b) false then Sum.inr (.inr ((i:Int),()))else Sum.inl ()) (fun _=> .inl (xs,((a,()),(b,()),()),ae xs,(xs.length:Int),())) (a0:=()) (fun i y u hy=>by
  have hlt:=ai hy;show qy xs ((a,()),(b,()),()) (ae xs) (i:Int)=_;unfold qy Wf;rw[aI hy,az hy,aH _ hy,aS (by omega)];dsimp only[oT,oB];cases cond (bk y.1 a) (bk y.2.1 b) false <;> rfl) (fun u=>by
  show qy xs ((a,()),(b,()),()) (ae xs) (xs.length:Int)=_;unfold qy;rw[aA rfl];try rfl)
 have h':Of xs ((a,()),(b,()),()) (ae xs) 0=_:=h;rw[h'];have hf:=gf (Y:=Sum ((List cG)×(R9×R9×Unit)×Int×Int×Unit) (Int×Unit)) (fun(y:cG)=>cond (bk y.1 a) (bk y.2.1 b) false) (fun n=> .inr (n,())) (.inl (xs,((a,()),(b,()),()),ae xs,(xs.length:Int),())) (fun y=>match y with | .inl _ => -1 | .inr z=>z.1) (fun _=>rfl) rfl xs 0;rw[<- hf];dsimp only[oB];cases ko _ _ 0 xs () <;> rfl
theorem Hm(xs:List cG)(hb:FN xs):NQ xs=zR (dS xs):=by
 have hbig:=bb;have hb1:=hb.1;unfold NQ;have h:=aL (step:=da qF) xs (fun i (_:Unit)=>(xs,xs,ae xs,((i:Nat):Int),())) (fun i x _=>bif cR xs i x then Sum.inl ()else .inr (.inr (false,()))) (fun _=> .inl (xs,xs,ae xs,(xs.length:Int),())) (a0:=()) (fun i x a hx=>by
  have hlt:=ai hx;show qF xs xs (ae xs) (i:Int)=_;unfold qF cR;rw[aI hx,az hx,aH _ hx];dsimp only[oT];rw[Wl x (hb.2 x (aet hx))];dsimp only[oT,oB];rw[Cu xs _ _ hb1,aS (by omega)];have hp:cond (bk x.1 x.1) (bk x.2.1 x.2.1) false=true:=by rw[jN,jN];try rfl
  have hk:=Dd (fun(y:cG)=>cond (bk y.1 x.1) (bk y.2.1 x.2.1) false) 0 hx hp;rw[aex,<- ba]at hk;have hk':aj (cX (fun(y:cG)=>cond (bk y.1 x.1) (bk y.2.1 x.2.1) false) 0 xs) (i:Int)=(xs.take i).all (fun y=> !hE y x):=by rw[Bool.eq_iff_iff]; exact hk
  cases j6 x with
  | false=>rfl
  | true =>
    dsimp only[oT,oF,oN,oB];rw[hk'];cases(xs.take i).all (fun y=> !hE y x) <;> rfl) (fun a=>by
  show qF xs xs (ae xs) (xs.length:Int)=_;unfold qF;rw[aA rfl];try rfl)
 rw[fF]at h;have h':NW xs xs (ae xs) 0=_:=h;rw[h'];unfold dS;cases allI (cR xs) 0 xs <;> rfl
abbrev ar:=S8×Int×Int×Int×Int×List aN×Int×Int×List (Int×Unit)×List (Int×Unit)×List cG×Unit
def fI(a:ar):fj:=(a.2.2.2.2.2.2.1,a.2.2.2.2.2.2.2.1,a.2.2.2.2.2.2.2.2.1,a.2.2.2.2.2.2.2.2.2.1,())
def bA(a:ar):Prop:=a.1.length<=1048576/\(a.2.2.2.2.2.1.length<=1048576/\∀ y∈a.2.2.2.2.2.1,y.1.length<=1048576)/\iZ (fI a)/\a.2.2.2.2.2.2.2.2.2.2.1.length<=1048576/\∀ y∈a.2.2.2.2.2.2.2.2.2.2.1,y.1.length<=1048576/\y.2.1.length<=1048576/\y.2.2.1.length<=1048576
theorem bJ{n:Nat}(h:n<=1048576):n<=bG:=aeA h (by decide)
theorem bA.hs{a:ar}(h:bA a):qw a.2.2.2.2.2.1:=⟨bJ h.2.1.1,fun y hy=>bJ (h.2.1.2 y hy)⟩
theorem bA.ss{a:ar}(h:bA a):FN a.2.2.2.2.2.2.2.2.2.2.1:=⟨h.2.2.2.1,fun y hy=>⟨bJ (h.2.2.2.2 y hy).1,bJ (h.2.2.2.2 y hy).2.1⟩⟩
def bh(a:ar):Bool:=cond (eY a.1) (cond (cE a.2.1 0 9007199254740992) (cond (cE a.2.2.2.1 0 1000) (cond (cE a.2.2.2.2.1 0 9007199254740992) (cond (bI a.2.2.1) (cond (cU a.2.2.2.2.2.1) (cond (fY (fI a)) (cond (dS a.2.2.2.2.2.2.2.2.2.2.1) (bM (eE a.2.2.1 (rI a.2.2.2.2.2.1)) a.2.1) false) false) false) false) false) false) false) false
theorem kH(a:ar)(hb:bA a):OF a=zR (bh a):=by
 have h1:=xJ a.1 (bJ hb.1);have h2:=Bj _ hb.hs;have h3:Dk (a.2.2.2.2.2.2.1,a.2.2.2.2.2.2.2.1,a.2.2.2.2.2.2.2.2.1,a.2.2.2.2.2.2.2.2.2.1,())=_:=Au (fI a) hb.2.2.1;have h4:=F7 _ hb.ss;have h5:=Dx _ hb.hs.1;unfold OF bh;rw[h1,h2,h3,h4,h5,mo,mo,mo,ni];dsimp only[oB];rw[vg];dsimp only[oB];cases eY a.1 <;> first | rfl | skip
 cases cE a.2.1 0 9007199254740992 <;> first | rfl | skip
 cases cE a.2.2.2.1 0 1000 <;> first | rfl | skip
 cases cE a.2.2.2.2.1 0 9007199254740992 <;> first | rfl | skip
 cases bI a.2.2.1 <;> first | rfl | skip
 cases cU a.2.2.2.2.2.1 <;> first | rfl | skip
 cases fY (fI a) <;> first | rfl | skip
 cases dS a.2.2.2.2.2.2.2.2.2.2.1 <;> rfl
theorem lP(a:ar)(hb:bA a):ED a=zR (bh a):=by
 have h1:=xS a.1 (bJ hb.1);have h2:=Bg _ hb.hs;have h3:Bo (a.2.2.2.2.2.2.1,a.2.2.2.2.2.2.2.1,a.2.2.2.2.2.2.2.2.1,a.2.2.2.2.2.2.2.2.2.1,())=_:=vX (fI a) hb.2.2.1;have h4:=Hm _ hb.ss;have h5:=Dm _ hb.hs.1;unfold ED bh;rw[h1,h2,h3,h4,h5,jS,jS,jS,AN];dsimp only[oB];rw[yf];dsimp only[oB];cases eY a.1 <;> first | rfl | skip
 cases cE a.2.1 0 9007199254740992 <;> first | rfl | skip
 cases cE a.2.2.2.1 0 1000 <;> first | rfl | skip
 cases cE a.2.2.2.2.1 0 9007199254740992 <;> first | rfl | skip
 cases bI a.2.2.1 <;> first | rfl | skip
 cases cU a.2.2.2.2.2.1 <;> first | rfl | skip
 cases fY (fI a) <;> first | rfl | skip
 cases dS a.2.2.2.2.2.2.2.2.2.2.1 <;> rfl
theorem gZ{α:Type}{b:Nat}{xs:List α}(h:xs.length * b<=bG):a6 b ([]:List α) xs=true:=aey (by simpa using h)
theorem xf(r:fj)(hb:iZ r):AQ r=some ((),(r,())):=by have hbig:=bb;obtain⟨h1,h2⟩:=hb;unfold AQ;rw[gZ (by omega),gZ (by omega)];try rfl
theorem yD(r:fj)(hb:iZ r):Ba r=some ((),(r,())):=by have hbig:=bb;obtain⟨h1,h2⟩:=hb;unfold Ba HT;rw[gZ (by omega),gZ (by omega)];try rfl
theorem uh(xs:List cG)(hs:xs.length<=1048576)(hb:∀ y∈xs,y.2.2.1.length<=1048576):Vy xs=zR xs:=by
 have hbig:=bb;unfold Vy;have h:=aY (step:=da yB) xs (fun i (a:List cG)=>(a,xs,ae xs,((i:Nat):Int),())) (fun _ x a=>Sum.inl (a++[x])) (fun a=> .inl (a,xs,ae xs,(xs.length:Int),())) (fun i a=>a.length=i) (a0:=[]) rfl (fun i x a hx ha=>by
  have hlt:=ai hx;have hm:=hb x (aet hx);show yB a xs (ae xs) (i:Int)=_;unfold yB;have e:∀ y:cG,a6 56 a [y]=true:=fun y=>aey (by simp; omega)
  rw[aI hx,az hx,aH _ hx];dsimp only[oT];rw[gZ (by omega),e,aS (by omega)];try rfl) (fun i x a a' hx ha hf=>by
  simp only[aeO]at hf;rw[<- hf,aep,ha];try rfl) (fun a ha=>by
  show yB a xs (ae xs) (xs.length:Int)=_;unfold yB;rw[aA rfl];try rfl)
 rw[kK]at h;have h':Ss [] xs (ae xs) 0=_:=h;rw[h'];try rfl
theorem zM(xs:List cG)(hs:xs.length<=1048576)(hb:∀ y∈xs,y.2.2.1.length<=1048576):JJ xs=zR xs:=by
 have hbig:=bb;unfold JJ;have h:=aY (step:=da qd) xs (fun i (a:List cG)=>(a,xs,ae xs,((i:Nat):Int),())) (fun _ x a=>Sum.inl (a++[x])) (fun a=> .inl (a,xs,ae xs,(xs.length:Int),())) (fun i a=>a.length=i) (a0:=[]) rfl (fun i x a hx ha=>by
  have hlt:=ai hx;have hm:=hb x (aet hx);show qd a xs (ae xs) (i:Int)=_;unfold qd EK;have e:∀ y:cG,a6 56 a [y]=true:=fun y=>aey (by simp; omega)
  rw[aI hx,az hx,aH _ hx];dsimp only[oT];rw[gZ (by omega),aS (by omega)];dsimp only[oT,oB];rw[e];try rfl) (fun i x a a' hx ha hf=>by
  simp only[aeO]at hf;rw[<- hf,aep,ha];try rfl) (fun a ha=>by
  show qd a xs (ae xs) (xs.length:Int)=_;unfold qd;rw[aA rfl];try rfl)
 rw[kK]at h;have h':K2 [] xs (ae xs) 0=_:=h;rw[h'];try rfl
theorem mz(a:ar)(hb:bA a):KF a=some ((),(a,())):=by have hbig:=bb;have h1:=hb.2.1.1;have h2:AQ (a.2.2.2.2.2.2.1,a.2.2.2.2.2.2.2.1,a.2.2.2.2.2.2.2.2.1,a.2.2.2.2.2.2.2.2.2.1,())=_:=xf (fI a) hb.2.2.1;have h3:=uh _ hb.2.2.2.1 (fun y hy=>(hb.2.2.2.2 y hy).2.2);unfold KF;rw[gZ (by omega),h2,h3];try rfl
theorem Dq(a:ar)(hb:bA a):Mh a=some ((),(a,())):=by have hbig:=bb;have h1:=hb.2.1.1;have h2:Ba (a.2.2.2.2.2.2.1,a.2.2.2.2.2.2.2.1,a.2.2.2.2.2.2.2.2.1,a.2.2.2.2.2.2.2.2.2.1,())=_:=yD (fI a) hb.2.2.1;have h3:=zM _ hb.2.2.2.1 (fun y hy=>(hb.2.2.2.2 y hy).2.2);unfold Mh Bw;rw[gZ (by omega),h2,h3];try rfl
theorem qq{α Y:Type}(p:α->Bool)(z:List α->Y):∀(xs:List α) (i:Nat) (d:List α),ko (fun _ x (a:List α)=>Sum.inl (bif p x then a++[x]else a)) z i xs d=z (d++xs.filter p)
 | [],_,d=>by simp[ko]
 | x::r,i,d=>by
   rw[ko];simp only;rw[qq p z r (i+1)];cases hp:p x with
   | true=>simp[hp]
   | false=>simp[hp]
def fT(now:Int)(h:aN):Bool:=aG now h.2.2.1
theorem KW(xs:List aN)(now:Int)(hs:xs.length<=1048576):Nr xs now=zR (xs.filter (fT now)):=by
 have hbig:=bb;unfold Nr;have h:=aY (step:=nD qB) xs (fun i (a:List aN)=>(now,a,xs,ae xs,((i:Nat):Int),())) (fun _ x a=>Sum.inl (bif fT now x then a++[x]else a)) (fun a=> .inl (now,a,xs,ae xs,(xs.length:Int),())) (fun i a=>a.length<=i) (a0:=[]) (oR _) (fun i x a hx ha=>by
  have hlt:=ai hx;show qB now a xs (ae xs) (i:Int)=_;unfold qB WS fT;have e:∀ y:aN,a6 32 a [y]=true:=fun y=>aey (by simp; omega)
  rw[aI hx,az hx,aH _ hx];dsimp only[oT,oB];rw[e,aS (by omega)];cases aG now x.2.2.1 <;> rfl) (fun i x a a' hx ha hf=>by
  simp only[aeO]at hf;rw[<- hf];cases fT now x with
  | true=>simp; omega
  | false=>simp; omega) (fun a ha=>by
  show qB now a xs (ae xs) (xs.length:Int)=_;unfold qB;rw[aA rfl];try rfl)
 rw[qq]at h;have h':Ll now [] xs (ae xs) 0=_:=h;rw[h'];try rfl
theorem I0(xs:List aN)(now:Int)(hs:xs.length<=1048576):Re xs (now,())=zR (cX (fun y=> !fT now y) 0 xs):=by
 have hbig:=bb;unfold Re;have h:=aL (step:=da re) xs (fun i (_:Unit)=>(xs,((now,()),()),ae xs,((i:Nat):Int),())) (fun i y _=>bif !fT now y then Sum.inr (.inr ((i:Int),()))else Sum.inl ()) (fun _=> .inl (xs,((now,()),()),ae xs,(xs.length:Int),())) (a0:=()) (fun i y u hy=>by
  have hlt:=ai hy;show re xs ((now,()),()) (ae xs) (i:Int)=_;unfold re KR PF fT;rw[aI hy,az hy,aH _ hy,aS (by omega)];dsimp only[oT,oB];cases aG now y.2.2.1 <;> rfl) (fun u=>by
  show re xs ((now,()),()) (ae xs) (xs.length:Int)=_;unfold re;rw[aA rfl];try rfl)
 have h':MQ xs ((now,()),()) (ae xs) 0=_:=h;rw[h'];have hf:=gf (Y:=Sum ((List aN)×((Int×Unit)×Unit)×Int×Int×Unit) (Int×Unit)) (fun(y:aN)=> !fT now y) (fun n=> .inr (n,())) (.inl (xs,((now,()),()),ae xs,(xs.length:Int),())) (fun y=>match y with | .inl _ => -1 | .inr z=>z.1) (fun _=>rfl) rfl xs 0;rw[<- hf];dsimp only[oB];cases ko _ _ 0 xs () <;> rfl
theorem qC{α:Type}(p:α->Bool):∀(xs:List α) (k:Nat),cX p k xs = -1->xs.filter (fun y=> !p y)=xs
 | [],_,_=>rfl
 | x::r,k,h=>by
   rw[cX]at h;cases hp:p x with
   | true=>rw[hp]at h; simp only[oT]at h; omega
   | false => rw[hp]at h;simp only[oF]at h;rw[agV (by simp[hp]),qC p r (k+1) h]
theorem ld{α:Type}(p:α->Bool):∀(xs:List α) (k:Nat),cX p k xs ≠ -1->∃ i x,cX p k xs=((k+i:Nat):Int)/\xs[i]? = some x/\p x=true/\(xs.take i).filter (fun y=> !p y)=xs.take i
 | [],_,h=>absurd rfl h
 | x::r,k,h=>by
   rw[cX]at h ⊢;cases hp:p x with
   | true=>exact⟨0,x,by simp,rfl,hp,rfl⟩
   | false => rw[hp]at h;simp only[oF]at h ⊢;obtain⟨i,y,h1,h2,h3,h4⟩:=ld p r (k+1) h;refine⟨i+1,y,by rw[h1]; omega,by simpa using h2,h3,?_⟩;rw[ag8,agV (by simp[hp]),h4]
theorem Hn{α:Type}{done:List α}{x y:α}{r:List α}{i:Nat}(h:done.length=i):(done++x::r).set i y=done++y::r:=by subst h; simp[List.set_append]
theorem Kt(xs:List aN)(now:Int)(hs:xs.length<=1048576):Oi xs (now,())=zR (xs.filter (fT now)):=by
 have hbig:=bb;have hnn:(fun y:aN=> !(!fT now y))=fT now:=by funext y; simp
 unfold Oi;rw[I0 xs now hs];dsimp only[oB];by_cases hf:cX (fun y=> !fT now y) 0 xs = -1
 . have:=qC _ _ _ hf;rw[hnn]at this;rw[hf,this];try rfl
 . obtain⟨k,x0,h1,h2,h3,h4⟩:=ld _ _ _ hf;rw[hnn]at h4;rw[aex]at h1;have hk:=ai h2;have he:aj (k:Int) (-1)=false:=by unfold aj; rw[beq_eq_false_iff_ne]; omega
   rw[h1,he,aS (by omega)];dsimp only[oF];obtain⟨⟨cur,i⟩,hI,hl⟩:=mq (step:=da nT) xs (fun j (a:List aN×Nat)=>(a.1,((now,()),()),(a.2:Int),((j:Nat):Int),())) (fun a=> .inl (a.1,((now,()),()),(a.2:Int),(xs.length:Int),())) (fun j a=>a.1.length=xs.length/\a.2<j/\a.1.take a.2=(xs.take j).filter (fT now)/\a.1.drop j=xs.drop j) (fun j x a hx ha=>by
    obtain⟨cur,i⟩:=a;obtain⟨ha1,ha2,ha3,ha4⟩:=ha;simp only at ha1 ha2 ha3 ha4;have hlt:=ai hx;have hcx:cur[j]? = some x:=by
     have e1:(cur.drop j)[0]? = some x:=by rw[ha4,afu,aeQ]; exact hx
     rw[afu,aeQ]at e1;exact e1
    have hdr:cur.drop (j+1)=xs.drop (j+1):=by have:=aeU List.tail ha4;simpa using this
    have hst:nT cur ((now,()),()) (i:Int) (j:Int)=some (.inl (bif fT now x then (cur.set i x,((now,()),()),((i+1:Nat):Int),((j+1:Nat):Int),())else (cur,((now,()),()),(i:Int),((j+1:Nat):Int),()))):=by
     unfold nT KR PF fT;have hi:i<cur.length:=by omega
     have hsp:cur=cur.take i++cur[i]::cur.drop (i+1):=by rw[<- agt hi,ago]
     have htl:(cur.take i).length=i:=by rw[afd]; omega
     rw[aI hcx,az hcx,aH _ hcx,fK hi,aS (show j<=bG by omega),aS (show i<=bG by omega)];dsimp only[oT,oB];cases aG now x.2.2.1 with
     | false=>rfl
     | true => dsimp only[oT,oF,oN,oM];generalize hci:cur[i]=ci at hsp;generalize hD:cur.drop (i+1)=D at hsp;generalize hT:cur.take i=T at hsp htl;rw[hsp];simp only[tw _ htl,gw htl,Hn htl];try rfl
    cases hlv:fT now x with
    | true =>
      rw[hlv]at hst;refine⟨(cur.set i x,i+1),hst,by simp[ha1],by omega,?_,?_⟩
      . show(cur.set i x).take (i+1)=_;have hi:i<cur.length:=by omega
        rw[afU,ag0 hi,List.take_set_of_le (oR _),ha3,afU,hx];simp[af1,hlv]
      . show(cur.set i x).drop (j+1)=_;rw[List.drop_set_of_lt (by omega),hdr]
    | false =>
      rw[hlv]at hst;refine⟨(cur,i),hst,ha1,by omega,?_,hdr⟩;show cur.take i=_;rw[ha3,afU,hx];simp[af1,hlv]) (fun a ha=>by
    show nT a.1 ((now,()),()) (a.2:Int) (xs.length:Int)=_;unfold nT;rw[aA ha.1];try rfl) (xs.length-(k+1)) (k+1) (xs,k) (by omega) ⟨rfl,by omega,by
    show xs.take k=_;have hx0:fT now x0=false:=by simpa using h3
    rw[afU,h2,af1,h4];simp[hx0],rfl⟩
   obtain⟨i1,i2,i3,_⟩:=hI;simp only at i1 i2 i3;have hl':Bq xs ((now,()),()) (k:Int) ((k+1:Nat):Int)=some (.inl (cur,((now,()),()),(i:Int),(xs.length:Int),())):=hl;rw[hl'];dsimp only[oB,oL];have c1:dZ (i:Int) (ae cur) cur=true:=by unfold dZ iF bM ae;rw[aes (by omega),aes (by omega),aes (by omega)];try rfl
   have c0:(lY ([],0,0,()) cur (i:Int))=cur.take i++List.replicate (cur.length-i) ([],0,0,()):=by unfold lY Ow; simp
   have c3:Pv (lY d192 cur (i:Int)) (i:Int)=cur.take i:=by
    show Pv (lY ([],0,0,()) cur (i:Int)) (i:Int)=_;rw[c0]; unfold Pv;have:(cur.take i).length=i:=by rw[afd]; omega
    simp only[afs];rw[agi (by omega),afT (by omega)]
   have c2:dZ 0 (i:Int) (lY d192 cur (i:Int))=true:=by show dZ 0 (i:Int) (lY ([],0,0,()) cur (i:Int))=true;rw[c0]; exact jj (by simp; omega)
   rw[c1];dsimp only[oT];rw[c2,c3,i3,agK];try rfl
theorem Oj(xs:List aN)(now:Int)(hs:xs.length<=1048576):LD xs now=zR (xs.filter (fT now)):=by have hbig:=bb;unfold LD Bw;rw[gZ (by omega)];dsimp only[oT,oB];rw[Kt xs now hs];try rfl
def ay(a:ar)(now:Int):ar:=cond (bh a) (cond (a7 now) (a.1,a.2.1,a.2.2.1,a.2.2.2.1,a.2.2.2.2.1,a.2.2.2.2.2.1.filter (fT now),a.2.2.2.2.2.2.1,a.2.2.2.2.2.2.2.1,a.2.2.2.2.2.2.2.2.1,a.2.2.2.2.2.2.2.2.2.1,a.2.2.2.2.2.2.2.2.2.2.1,()) a) a
theorem mU(a:ar)(now:Int)(hb:bA a):yQ a now=some ((),(ay a now,())):=by unfold yQ ay;rw[mz a hb,kH a hb,gN,KW _ now hb.2.1.1];dsimp only[oB];cases bh a <;> cases a7 now <;> rfl
theorem ly(a:ar)(now:Int)(hb:bA a):Lt a now=some ((),(ay a now,())):=by unfold Lt ay;rw[Dq a hb,lP a hb,gL,Oj _ now hb.2.1.1];dsimp only[oB];cases bh a <;> cases a7 now <;> rfl
theorem dq{a:ar}(now:Int)(hb:bA a):bA (ay a now):=by
 unfold ay;cases bh a with
 | false=>exact hb
 | true =>
   cases a7 now with
   | false=>exact hb
   | true => obtain⟨h1,⟨h2,h3⟩,h4,h5,h6⟩:=hb;exact⟨h1,⟨aeA (afc _ _) h2,fun y hy=>h3 y (afA.1 hy).1⟩,h4,h5,h6⟩
def aC(xs:List aN)(id:S8):Int:=cX (fun y=>bk y.1 id) 0 xs
theorem mD(xs:List aN)(id:S8)(hs:xs.length<=1048576):Bf xs id=zR (aC xs id):=by
 have hbig:=bb;unfold Bf aC;have h:=aL (step:=da qP) xs (fun i (_:Unit)=>(id,xs,ae xs,((i:Nat):Int),())) (fun i y _=>bif bk y.1 id then Sum.inr (.inr ((i:Int),()))else Sum.inl ()) (fun _=> .inl (id,xs,ae xs,(xs.length:Int),())) (a0:=()) (fun i y u hy=>by
  have hlt:=ai hy;show qP id xs (ae xs) (i:Int)=_;unfold qP;rw[aI hy,az hy,aH _ hy,aS (by omega)];dsimp only[oT];cases bk y.1 id <;> rfl) (fun u=>by
  show qP id xs (ae xs) (xs.length:Int)=_;unfold qP;rw[aA rfl];try rfl)
 have h':Lw id xs (ae xs) 0=_:=h;rw[h'];have hf:=gf (Y:=Sum (S8×(List aN)×Int×Int×Unit) (Int×Unit)) (fun(y:aN)=>bk y.1 id) (fun n=> .inr (n,())) (.inl (id,xs,ae xs,(xs.length:Int),())) (fun y=>match y with | .inl _ => -1 | .inr z=>z.1) (fun _=>rfl) rfl xs 0;rw[<- hf];dsimp only[oB];cases ko _ _ 0 xs () <;> rfl
theorem gU(xs:List aN)(id:S8)(hs:xs.length<=1048576):Fm xs id=zR (aC xs id):=by
 have hbig:=bb;unfold Fm Fs aC;have h:=aL (step:=da ky) xs (fun i (_:Unit)=>(xs,((id,()),()),ae xs,((i:Nat):Int),())) (fun i y _=>bif bk y.1 id then Sum.inr (.inr ((i:Int),()))else Sum.inl ()) (fun _=> .inl (xs,((id,()),()),ae xs,(xs.length:Int),())) (a0:=()) (fun i y u hy=>by
  have hlt:=ai hy;show ky xs ((id,()),()) (ae xs) (i:Int)=_;unfold ky Wg;rw[aI hy,az hy,aH _ hy,aS (by omega)];dsimp only[oT,oB];cases bk y.1 id <;> rfl) (fun u=>by
  show ky xs ((id,()),()) (ae xs) (xs.length:Int)=_;unfold ky;rw[aA rfl];try rfl)
 have h':DO xs ((id,()),()) (ae xs) 0=_:=h;rw[h'];have hf:=gf (Y:=Sum ((List aN)×(R9×Unit)×Int×Int×Unit) (Int×Unit)) (fun(y:aN)=>bk y.1 id) (fun n=> .inr (n,())) (.inl (xs,((id,()),()),ae xs,(xs.length:Int),())) (fun y=>match y with | .inl _ => -1 | .inr z=>z.1) (fun _=>rfl) rfl xs 0;rw[<- hf];dsimp only[oB];cases ko _ _ 0 xs () <;> rfl
def rE(xs:List aN)(now:Int):Int:=rI (xs.filter (fT now))
theorem Jw(xs:List aN)(now:Int)(hs:xs.length<=1048576):Pk xs now=zR (rE xs now):=by unfold Pk;rw[KW xs now hs];dsimp only[oB];rw[Dx _ (bJ (aeA (afc _ _) hs))];try rfl
theorem Ii(xs:List aN)(now:Int)(hs:xs.length<=1048576):Po xs now=zR (rE xs now):=by unfold Po;rw[Oj xs now hs];dsimp only[oB];rw[Dm _ (bJ (aeA (afc _ _) hs))];try rfl
def gI(a:ar)(now:Int):Int:=cond (bh a) (cond (a7 now) (aW .i64 (aW .i64 a.2.1 a.2.2.1) (rE a.2.2.2.2.2.1 now)) 0) 0
theorem EM(a:ar)(now:Int)(hb:bA a):IC a now=zR (gI a now):=by unfold IC gI;rw[kH a hb,gN,Jw _ now hb.2.1.1];dsimp only[oB];cases bh a <;> cases a7 now <;> rfl
theorem EE(a:ar)(now:Int)(hb:bA a):HR a now=zR (gI a now):=by unfold HR gI;rw[lP a hb,gL,Ii _ now hb.2.1.1];dsimp only[oB];cases bh a <;> cases a7 now <;> rfl
def shE(n:Int)(xs:List (Int×Unit))(j:Nat):Int×Unit:=cond (bM n (j:Int)) (gt (0,()) xs ((j:Int)-n)) (0,())
def dj(n:Int)(xs:List (Int×Unit)):List (Int×Unit):=(List.range xs.length).map (shE n xs)
theorem eH(n:Int)(xs:List (Int×Unit)):(dj n xs).length=xs.length:=by simp[dj]
theorem qu{n:Int}{xs:List (Int×Unit)}{j:Nat}(h:j<xs.length):(dj n xs)[j]? = some (shE n xs j):=by simp[dj,h]
theorem ui{α:Type}{xs:List α}{i:Nat}{x:α}(h:xs[i]? = some x):xs.take (i+1)=xs.take i++[x]:=by rw[afU,h];try rfl
theorem zS(n:Int)(xs:List (Int×Unit))(hs:xs.length<=1048576)(hn:0<=n/\n<=1000000000):LF xs n=zR (dj n xs):=by
 have hbig:=bb;unfold LF;dsimp only;rw[qZ (by decide) (by omega),lj];obtain⟨u,_,hl⟩:=mq (A:=Unit) (step:=nD pO) xs (fun j _=>(xs,n,(dj n xs).take j++List.replicate (xs.length-j) (0,()),ae xs,((j:Nat):Int),())) (fun _=> .inl (xs,n,dj n xs,ae xs,(xs.length:Int),())) (fun _ _=>True) (fun j x a hx _=>by
  have hlt:=ai hx;have hsh:=qu (n:=n) hlt;have htl:((dj n xs).take j).length=j:=by rw[afd,eH]; omega
  refine⟨(),?_,trivial⟩;show pO xs n ((dj n xs).take j++List.replicate (xs.length-j) (0,())) (ae xs) (j:Int)=some (.inl (xs,n,(dj n xs).take (j+1)++List.replicate (xs.length-(j+1)) (0,()),ae xs,((j+1:Nat):Int),()));obtain⟨q,hq⟩:∃ q,xs.length-j=q+1:=⟨xs.length-j-1,by omega⟩;have hq':xs.length-(j+1)=q:=by omega
  rw[hq,hq',af5,ui hsh];unfold pO shE;rw[aI hx,jb htl,aS (by omega)];dsimp only[oT];by_cases hle:n<=(j:Int)
  . have e1:bM n (j:Int)=true:=aes hle;have e2:aZ ((j:Int)-n) xs=true:=by
     have e:(j:Int)-n=(((j:Int)-n).toNat:Int):=by omega
     rw[e]; exact fK (by omega)
    rw[e1,bp (by omega) (by omega),e2];dsimp only[oT];rw[gw htl,aeV];try rfl
  . have e1:bM n (j:Int)=false:=aeL hle;rw[e1];dsimp only[oF];rw[aeV];try rfl) (fun a _=>by
  show pO xs n ((dj n xs).take xs.length++List.replicate (xs.length-xs.length) (0,())) (ae xs) (xs.length:Int)=_;unfold pO;rw[aA rfl,af7,af6,afp,afT (by rw[eH]; exact oR _)];try rfl) xs.length 0 () (by omega) trivial
 have hl':KG xs n (List.replicate xs.length (0,())) (ae xs) 0=_:=hl;rw[show(List.replicate xs.length d3)=List.replicate xs.length (0,())from rfl,hl'];try rfl
def jh(r:fj)(now:Int):fj:=cond (fY r) (cond (a7 now) (cond (bM (now / r.1) r.2.1) r (r.1,now / r.1,dj (now / r.1-r.2.1) r.2.2.1,dj (now / r.1-r.2.1) r.2.2.2.1,())) r) r
theorem uf{a b:Int}(h:a≠b):aj a b=false:=by unfold aj; rw[beq_eq_false_iff_ne]; exact h
theorem Ls{now s:Int}(h:0<=now/\now<=1000000000)(h2:1<=s):jU .i64 now s=now / s/\0<=now / s/\now / s<=1000000000:=by have h3:0<=now / s:=agz h.1 (by omega);have h4:now / s<=now:=Int.ediv_le_self _ h.1;refine⟨?_,h3,by omega⟩;unfold jU;rw[af8 h.1];exact IntWalk.i64_in _ (by omega)
theorem Eo(r:fj)(now:Int)(hb:iZ r):Ja r now=some ((),(jh r now,())):=by
 unfold Ja jh;rw[yD r hb,vX r hb,gL];dsimp only[oB];cases hr:fY r with
 | false=>rfl
 | true =>
 cases ht:a7 now with
 | false=>rfl
 | true =>
 obtain⟨s1,s2,s3,s4⟩:=lg hr;have tn:=bl.1 ht;obtain⟨q1,q2,q3⟩:=Ls tn s1.1;dsimp only[oT,oF,oN];rw[uf (show r.1≠0 by omega),q1]
 try dsimp only[oT,oF,oN,oM]
 by_cases hle:now / r.1<=r.2.1
 . rw[show bM (now / r.1) r.2.1=true from aes hle];try rfl
 . rw[show bM (now / r.1) r.2.1=false from aeL hle];dsimp only[oT,oF,oN];rw[bp (by omega) (by omega),zS _ _ hb.1 (by omega),zS _ _ hb.2 (by omega)];try rfl
theorem KK(r:fj)(now:Int)(hb:iZ r):K7 r now=some ((),(jh r now,())):=by
 have hbig:=bb;unfold K7 jh;rw[xf r hb,Au r hb,gN];dsimp only[oB];cases hr:fY r with
 | false=>rfl
 | true =>
 cases ht:a7 now with
 | false=>rfl
 | true =>
 obtain⟨s1,s2,s3,s4⟩:=lg hr;have tn:=bl.1 ht;obtain⟨q1,q2,q3⟩:=Ls tn s1.1;dsimp only[oT,oF,oN];rw[uf (show r.1≠0 by omega),q1]
 try dsimp only[oT,oF,oN,oM]
 by_cases hle:now / r.1<=r.2.1
 . rw[show bM (now / r.1) r.2.1=true from aes hle];try rfl
 . rw[show bM (now / r.1) r.2.1=false from aeL hle];dsimp only[oT,oF,oN];rw[bp (a:=now / r.1) (b:=r.2.1) (by omega) (by omega)];obtain⟨sp,hd,cs,ss,u⟩:=r;obtain⟨⟩:=u;simp only at s1 s2 s3 s4 q1 q2 q3 hle ⊢;have hn:0<=now / sp-hd/\now / sp-hd<=1000000000:=by omega
   generalize hnn:now / sp-hd=n at hn ⊢;obtain⟨u,_,hl⟩:=mq (A:=Unit) (step:=zO qH) cs (fun j _=>(now,n,ae cs,((j:Nat):Int),(sp,hd,cs,ss,()),(0,0,[],[],()),(sp,hd,(dj n cs).take j++cs.drop j,(dj n ss).take j++ss.drop j,()),())) (fun _=> .inl (now,n,ae cs,(cs.length:Int),(sp,hd,cs,ss,()),(0,0,[],[],()),(sp,hd,dj n cs,dj n ss,()),())) (fun _ _=>True) (fun j x a hx _=>by
    have hlt:=ai hx;obtain⟨y,hy⟩:∃ y,ss[j]? = some y:=⟨ss[j]'(by omega),aeq (by omega)⟩;have hsh:=qu (n:=n) hlt;have hsh2:=qu (n:=n) (ai hy);have htl:((dj n cs).take j).length=j:=by rw[afd,eH]; omega
    have htl2:((dj n ss).take j).length=j:=by rw[afd,eH]; omega
    refine⟨(),?_,trivial⟩;show qH now n (ae cs) (j:Int) (sp,hd,cs,ss,()) (0,0,[],[],()) (sp,hd,(dj n cs).take j++cs.drop j,(dj n ss).take j++ss.drop j,())=some (.inl (now,n,ae cs,((j+1:Nat):Int),(sp,hd,cs,ss,()),(0,0,[],[],()),(sp,hd,(dj n cs).take (j+1)++cs.drop (j+1),(dj n ss).take (j+1)++ss.drop (j+1),()),()));rw[DV hx,DV hy,ui hsh,ui hsh2];unfold qH shE;dsimp only;rw[aI hx,jb htl,jb htl2,aS (by omega),gw htl,gw htl2];dsimp only[oT];by_cases hle:n<=(j:Int)
    . have e1:bM n (j:Int)=true:=aes hle;have e:(j:Int)-n=(((j:Int)-n).toNat:Int):=by omega
      have e2:aZ ((j:Int)-n) cs=true:=by rw[e]; exact fK (by omega)
      have e3:aZ ((j:Int)-n) ss=true:=by rw[e]; exact fK (by omega)
      rw[e1,bp (by omega) (by omega),e2,e3];dsimp only[oT];rw[jb htl,jb htl2,gw htl,gw htl2,aeV,aeV];try rfl
    . have e1:bM n (j:Int)=false:=aeL hle;rw[e1];dsimp only[oF];rw[aeV,aeV];try rfl) (fun a _=>by
    show qH now n (ae cs) (cs.length:Int) (sp,hd,cs,ss,()) (0,0,[],[],()) (sp,hd,(dj n cs).take cs.length++cs.drop cs.length,(dj n ss).take cs.length++ss.drop cs.length,())=_;unfold qH;rw[aA rfl,List.drop_length,<- s3,List.drop_length,afp,afp,afT (by rw[eH]; omega),afT (by rw[eH]; omega)];try rfl) cs.length 0 () (by omega) trivial
   have hl':Nw now n (ae cs) 0 (sp,hd,cs,ss,()) (0,0,[],[],()) (sp,hd,cs,ss,())=_:=hl;rw[hl'];dsimp only[oB,oL];rw[uf (show sp≠0 by omega),q1];try rfl
theorem FE{r:fj}(now:Int)(hb:iZ r):iZ (jh r now):=by
 unfold jh;cases fY r with
 | false=>exact hb
 | true =>
   cases a7 now with
   | false=>exact hb
   | true =>
     cases bM (now / r.1) r.2.1 with
     | true=>exact hb
     | false=>exact⟨by show(dj _ _).length<=_; rw[eH]; exact hb.1,by show(dj _ _).length<=_; rw[eH]; exact hb.2⟩
theorem rJ(r:fj)(now:Int):(jh r now).2.2.1.length=r.2.2.1.length/\(jh r now).2.2.2.1.length=r.2.2.2.1.length:=by unfold jh;cases fY r <;> cases a7 now <;> cases bM (now / r.1) r.2.1 <;> first | exact⟨rfl,rfl⟩ | exact⟨eH _ _,eH _ _⟩
def NC(xs:List (Int×Unit)):Int:=xs.foldl (fun a x=>eE a x.1) 0
theorem Hy(xs:List (Int×Unit))(hs:xs.length<=1048576):Me xs=zR (NC xs):=by
 have hbig:=bb;unfold Me;have h:=aL (step:=da pG) xs (fun i (a:Int)=>(a,xs,ae xs,((i:Nat):Int),())) (fun _ x a=>Sum.inl (eE a x.1)) (fun a=> .inl (a,xs,ae xs,(xs.length:Int),())) (a0:=0) (fun i x a hx=>by
  have hlt:=ai hx;show pG a xs (ae xs) (i:Int)=_;unfold pG;rw[aI hx,az hx,aH _ hx,aS (by omega),yf];try rfl) (fun a=>by
  show pG a xs (ae xs) (xs.length:Int)=_;unfold pG;rw[aA rfl];try rfl)
 rw[bH (fun(x:Int×Unit) a=>eE a x.1)]at h;have h':NG 0 xs (ae xs) 0=_:=h;rw[h'];try rfl
def ph(r:fj)(now:Int)(sums:Bool):Int:=cond (fY r) (cond (a7 now) (NC (cond sums (jh r now).2.2.2.1 (jh r now).2.2.1)) 0) 0
theorem Gz(r:fj)(now:Int)(b:Bool)(hb:iZ r):MT r now b=zR (ph r now b):=by
 have hbig:=bb;unfold MT ph;rw[Au r hb,gN,KK r now hb];dsimp only[oB];cases hr:fY r with
 | false=>rfl
 | true =>
 cases ht:a7 now with
 | false=>rfl
 | true =>
 dsimp only[oT,oF,oN];obtain⟨s1,s2,s3,s4⟩:=lg hr;have hlen:=rJ r now;have hrb:=FE now hb;generalize jh r now=q at hlen hrb ⊢;obtain⟨l1,l2⟩:=hlen;obtain⟨hb1,hb2⟩:=hrb;have hq:q.2.2.2.1.length=q.2.2.1.length:=by omega
 cases b with
 | false =>
   have h:=aL (step:=nD jQ) q.2.2.1 (fun i (a:Int)=>(false,a,ae q.2.2.1,((i:Nat):Int),q,())) (fun _ x a=>Sum.inl (eE a x.1)) (fun a=> .inl (false,a,ae q.2.2.1,(q.2.2.1.length:Int),q,())) (a0:=0) (fun i x a hx=>by
    have hlt:=ai hx;show jQ false a (ae q.2.2.1) (i:Int) q=_;unfold jQ;rw[aI hx,az hx,aH _ hx,aS (by omega)];dsimp only[oT,oF];rw[vg];try rfl) (fun a=>by
    show jQ false a (ae q.2.2.1) (q.2.2.1.length:Int) q=_;unfold jQ;rw[aA rfl];try rfl)
   rw[bH (fun(x:Int×Unit) a=>eE a x.1)]at h;have h':F4 false 0 (ae q.2.2.1) 0 q=_:=h;rw[h'];try rfl
 | true =>
   have hl:ae q.2.2.1=ae q.2.2.2.1:=by unfold ae; omega
   rw[hl];have h:=aL (step:=nD jQ) q.2.2.2.1 (fun i (a:Int)=>(true,a,ae q.2.2.2.1,((i:Nat):Int),q,())) (fun _ x a=>Sum.inl (eE a x.1)) (fun a=> .inl (true,a,ae q.2.2.2.1,(q.2.2.2.1.length:Int),q,())) (a0:=0) (fun i x a hx=>by
    have hlt:=ai hx;show jQ true a (ae q.2.2.2.1) (i:Int) q=_;unfold jQ;rw[aI hx,az hx,aH _ hx,aS (by omega)];dsimp only[oT,oF];rw[vg];try rfl) (fun a=>by
    show jQ true a (ae q.2.2.2.1) (q.2.2.2.1.length:Int) q=_;unfold jQ;rw[aA rfl];try rfl)
   rw[bH (fun(x:Int×Unit) a=>eE a x.1)]at h;have h':F4 true 0 (ae q.2.2.2.1) 0 q=_:=h;rw[h'];try rfl
theorem PL(r:fj)(now:Int)(hb:iZ r):Ok r now=zR (ph r now false):=by unfold Ok; rw[Gz r now false hb];try rfl
theorem ZR(r:fj)(now:Int)(hb:iZ r):NO r now=zR (ph r now true):=by unfold NO; rw[Gz r now true hb];try rfl
theorem Rv(r:fj)(now:Int)(hb:iZ r):KY r now=zR (ph r now false):=by unfold KY ph;rw[vX r hb,gL,Eo r now hb];dsimp only[oB];rw[Hy _ (FE now hb).1];cases fY r <;> cases a7 now <;> rfl
theorem aat(r:fj)(now:Int)(hb:iZ r):Na r now=zR (ph r now true):=by unfold Na ph;rw[vX r hb,gL,Eo r now hb];dsimp only[oB];rw[Hy _ (FE now hb).2];cases fY r <;> cases a7 now <;> rfl
def gT(a:ar)(amt now:Int):Int:=cond (aG (gI a now) amt) 7 (cond (aG a.2.2.2.1 (eE (ph (fI a) now false) 1)) 8 (cond (aG a.2.2.2.2.1 (eE (ph (fI a) now true) amt)) 9 0))
theorem Nc(a:ar)(amt now:Int)(hb:bA a):No a amt now=zR (gT a amt now):=by
 have h1:Ok (a.2.2.2.2.2.2.1,a.2.2.2.2.2.2.2.1,a.2.2.2.2.2.2.2.2.1,a.2.2.2.2.2.2.2.2.2.1,()) now=_:=PL (fI a) now hb.2.2.1;have h2:NO (a.2.2.2.2.2.2.1,a.2.2.2.2.2.2.2.1,a.2.2.2.2.2.2.2.2.1,a.2.2.2.2.2.2.2.2.2.1,()) now=_:=ZR (fI a) now hb.2.2.1;unfold No gT;rw[EM a now hb,h1,h2];dsimp only[oB];rw[vg,vg];dsimp only[oB];cases aG (gI a now) amt <;> first | rfl | skip
 cases aG a.2.2.2.1 (eE (ph (fI a) now false) 1) <;> first | rfl | skip
 cases aG a.2.2.2.2.1 (eE (ph (fI a) now true) amt) <;> rfl
theorem NS(a:ar)(amt now:Int)(hb:bA a):Kc a amt now=zR (gT a amt now):=by
 have h1:KY (a.2.2.2.2.2.2.1,a.2.2.2.2.2.2.2.1,a.2.2.2.2.2.2.2.2.1,a.2.2.2.2.2.2.2.2.2.1,()) now=_:=Rv (fI a) now hb.2.2.1;have h2:Na (a.2.2.2.2.2.2.1,a.2.2.2.2.2.2.2.1,a.2.2.2.2.2.2.2.2.1,a.2.2.2.2.2.2.2.2.2.1,()) now=_:=aat (fI a) now hb.2.2.1;unfold Kc gT;rw[EE a now hb,h1,h2];dsimp only[oB];rw[yf,yf];dsimp only[oB];cases aG (gI a now) amt <;> first | rfl | skip
 cases aG a.2.2.2.1 (eE (ph (fI a) now false) 1) <;> first | rfl | skip
 cases aG a.2.2.2.2.1 (eE (ph (fI a) now true) amt) <;> rfl
def dG(r:fj)(now amt:Int):fj:=cond (fY r) (cond (a7 now) (cond (bI amt) ((jh r now).1,(jh r now).2.1,dw (jh r now).2.2.1 0 (eE (gt (0,()) (jh r now).2.2.1 0).1 1,()),dw (jh r now).2.2.2.1 0 (eE (gt (0,()) (jh r now).2.2.2.1 0).1 amt,()),()) r) r) r
theorem Hk{α:Type}{xs:List α}(h:1<=xs.length):aZ 0 xs=true:=fK (i:=0) (by omega)
theorem zN(r:fj)(now amt:Int)(hb:iZ r):Ew r now amt=some ((),(dG r now amt,())):=by
 unfold Ew dG;rw[Au r hb,gN,ni,xf r hb,KK r now hb];dsimp only[oB];cases hr:fY r with
 | false=>rfl
 | true =>
 cases a7 now with
 | false=>rfl
 | true =>
 cases bI amt with
 | false=>rfl
 | true =>
 obtain⟨s1,s2,s3,s4⟩:=lg hr;have hlen:=rJ r now;dsimp only[oT,oF,oN];rw[Hk (by omega),Hk (by omega),vg,vg];try rfl
theorem zp(r:fj)(now amt:Int)(hb:iZ r):A0 r now amt=some ((),(dG r now amt,())):=by
 unfold A0 dG;rw[vX r hb,gL,AN,yD r hb,Eo r now hb];dsimp only[oB];cases hr:fY r with
 | false=>rfl
 | true =>
 cases a7 now with
 | false=>rfl
 | true =>
 cases bI amt with
 | false=>rfl
 | true =>
 obtain⟨s1,s2,s3,s4⟩:=lg hr;have hlen:=rJ r now;dsimp only[oT,oF,oN];rw[Hk (by omega),Hk (by omega),yf,yf];try rfl
theorem DU(r:fj)(now amt:Int):(dG r now amt).2.2.1.length=r.2.2.1.length/\(dG r now amt).2.2.2.1.length=r.2.2.2.1.length:=by unfold dG;have h:=rJ r now;cases fY r <;> cases a7 now <;> cases bI amt <;> first | exact⟨rfl,rfl⟩ | exact⟨by show(dw _ _ _).length=_; simp only[dw,afB]; exact h.1,by show(dw _ _ _).length=_; simp only[dw,afB]; exact h.2⟩
def aP:ar:=([],0,0,0,0,[],0,0,[],[],[],())
theorem kl{xs:List aN}{id:S8}(h:¬ aC xs id<0):aZ (aC xs id) xs=true:=by
 rcases rX (fun(y:aN)=>bk y.1 id) xs 0 with h1 | h1
 . exfalso; apply h; show cX _ 0 xs<0; omega
 . have e:aC xs id=((aC xs id).toNat:Int):=by omega
   rw[e];have:aC xs id<xs.length:=by have:=h1.2; simp only[aC]; omega
   exact fK (by omega)
def lC(a:ar)(id:S8)(amt now:Int):ar×Int :=
 cond (cond (bh a) (cond (a7 now) (bf id) false) false)
  (cond (cE amt 1 9007199254740992)
    (cond (aG (aC (ay a now).2.2.2.2.2.1 id) 0) (aP,5)
      (cond (aj (gT (ay a now) amt now) 0)
        (((ay a now).1,(ay a now).2.1,(ay a now).2.2.1,(ay a now).2.2.2.1,(ay a now).2.2.2.2.1,
          dw (ay a now).2.2.2.2.2.1 (aC (ay a now).2.2.2.2.2.1 id) ((gt ([],0,0,()) (ay a now).2.2.2.2.2.1 (aC (ay a now).2.2.2.2.2.1 id)).1,aw .i64 (gt ([],0,0,()) (ay a now).2.2.2.2.2.1 (aC (ay a now).2.2.2.2.2.1 id)).2.1 amt,(gt ([],0,0,()) (ay a now).2.2.2.2.2.1 (aC (ay a now).2.2.2.2.2.1 id)).2.2.1,()),
          (dG (fI (ay a now)) now amt).1,(dG (fI (ay a now)) now amt).2.1,(dG (fI (ay a now)) now amt).2.2.1,(dG (fI (ay a now)) now amt).2.2.2.1,(ay a now).2.2.2.2.2.2.2.2.2.2.1,()),0)
        (aP,gT (ay a now) amt now)))
    (aP,4))
  (aP,1)
theorem VX(a:ar)(id:S8)(amt now:Int)(hb:bA a)(hi:id.length<=1048576):OX a id amt now=some ((),((lC a id amt now).1,((lC a id amt now).2,()),())):=by
 have hsb:=dq now hb;unfold OX xV lC;rw[kH a hb,gN,kW id (bJ hi),mo,mU a now hb];dsimp only[oB];generalize ay a now=s at hsb ⊢;have h1:Ew (s.2.2.2.2.2.2.1,s.2.2.2.2.2.2.2.1,s.2.2.2.2.2.2.2.2.1,s.2.2.2.2.2.2.2.2.2.1,()) now amt=_:=zN (fI s) now amt hsb.2.2.1;rw[mD _ id hsb.2.1.1,Nc s amt now hsb];dsimp only[oB];rw[h1];cases bh a <;> first | rfl | skip
 cases a7 now <;> first | rfl | skip
 cases bf id <;> first | rfl | skip
 cases cE amt 1 9007199254740992 <;> first | rfl | skip
 dsimp only[oT,oF,oN,oB];by_cases hat:aC s.2.2.2.2.2.1 id<0
 . rw[aO hat];try rfl
 . rw[aJ hat,kl hat];dsimp only[oT,oF];cases aj (gT s amt now) 0 <;> rfl
theorem Uc(a:ar)(id:S8)(amt now:Int)(hb:bA a)(hi:id.length<=1048576):LB a id amt now=some ((),((lC a id amt now).1,((lC a id amt now).2,()),())):=by
 have hsb:=dq now hb;unfold LB FT sB lC;rw[lP a hb,gL,kI id (bJ hi),jS,ly a now hb];dsimp only[oB];generalize ay a now=s at hsb ⊢;have h1:A0 (s.2.2.2.2.2.2.1,s.2.2.2.2.2.2.2.1,s.2.2.2.2.2.2.2.2.1,s.2.2.2.2.2.2.2.2.2.1,()) now amt=_:=zp (fI s) now amt hsb.2.2.1;have h2:=gU s.2.2.2.2.2.1 id hsb.2.1.1;have h3:=NS s amt now hsb;have h0:=gU [] id (by decide);cases bh a with
 | false => simp only[oT,oF,oN,oM,oB];rw[h0];try rfl
 | true =>
 cases a7 now with
 | false => simp only[oT,oF,oN,oM,oB];rw[h0];try rfl
 | true =>
 simp only[oT,oF,oN,oM,oB];rw[h2];dsimp only[oB];cases bf id with
 | false=>rfl
 | true =>
 cases cE amt 1 9007199254740992 with
 | false=>rfl
 | true =>
 by_cases hat:aC s.2.2.2.2.2.1 id<0
 . rw[aO hat];try rfl
 . have e00:aj 0 0=true:=rfl;rw[aJ hat,e00];simp only[oT,oF,oN,oM,oB];rw[h3];simp only[oT,oF,oN,oM,oB];rw[h1,kl hat,e00];cases aj (gT s amt now) 0 <;> rfl
theorem Ds:∀ s:S8,Op.bytesLess s s=false
 | []=>rfl
 | x::r=>by simp[Op.bytesLess,Ds r]
theorem qG:∀ s t u:S8,Op.bytesLess s t=true->Op.bytesLess t u=true->Op.bytesLess s u=true
 | [],[],u,h,_=>by simp[Op.bytesLess]at h
 | _::_,[],u,h,_=>by simp[Op.bytesLess]at h
 | _,_::_,[],_,h=>by simp[Op.bytesLess]at h
 | [],_::_,_::_,_,_=>by simp[Op.bytesLess]
 | x::r,y::t,z::u,h1,h2=>by
   simp only[Op.bytesLess,afz,afJ,aeo,beq_iff_eq]at h1 h2 ⊢;rcases h1 with h1 | ⟨rfl,h1⟩
   . rcases h2 with h2 | ⟨rfl,h2⟩
     . exact .inl (UInt8.lt_trans h1 h2)
     . exact .inl h1
   . rcases h2 with h2 | ⟨rfl,h2⟩
     . exact .inl h2
     . exact .inr ⟨rfl,qG r t u h1 h2⟩
theorem mS{xs:List aN}(h:cU xs=true):xs.length<=4:=by
 unfold cU at h;cases ha:allI (ff xs) 0 xs with
 | false=>rw[ha]at h; simp at h
 | true => rw[ha]at h;have:(ae xs)<=4:=afD h;unfold ae at this; omega
theorem py{xs:List aN}(h:cU xs=true):xs.Pairwise fun a b=>yK a.1 b.1=true:=by
 unfold cU at h;cases ha:allI (ff xs) 0 xs with
 | false=>rw[ha]at h; simp at h
 | true =>
   have adj:∀ i (h1:i+1<xs.length),yK (xs[i]'(by omega)).1 xs[i+1].1=true:=fun i h1=>by
    have:=gq _ ha (i:=i+1) (x:=xs[i+1]) (aeq h1);unfold ff at this;cases hm:lr xs[i+1]with
    | false=>rw[hm]at this; simp at this
    | true => rw[hm,aex,aO (show(0:Int)<((i+1:Nat):Int)by omega)]at this;simp only[oT]at this;rw[show((i+1:Nat):Int)-1=((i:Nat):Int)by omega,aH _ (aeq (show i<xs.length by omega))]at this;exact this
   rw[agN];intro i j hi hj hij;obtain⟨d,rfl⟩:∃ d,j=i+1+d:=⟨j-i-1,by omega⟩;induction d with
   | zero=>exact adj i hj
   | succ d ih=>exact qG _ _ _ (ih (by omega) (by omega)) (adj (i+1+d) hj)
theorem pI{xs:List aN}(h:cU xs=true):∀ x∈xs,lr x=true:=fun x hx=>by
 unfold cU at h;cases ha:allI (ff xs) 0 xs with
 | false=>rw[ha]at h; simp at h
 | true =>
   obtain⟨i,hi,e⟩:=List.getElem_of_mem hx;have:=gq _ ha (i:=i) (x:=x) (by rw[aeq hi,e]);unfold ff at this;cases hm:lr x with
   | false=>rw[hm]at this; simp at this
   | true=>rfl
theorem BP{α:Type}(p:Nat->α->Bool):∀(xs:List α) (k:Nat),(∀ i x,xs[i]? = some x->p (k+i) x=true)->allI p k xs=true
 | [],_,_=>rfl
 | x::r,k,h=>by unfold allI;have h0:=h 0 x rfl;rw[aeQ]at h0;rw[h0,BP p r (k+1) fun i y hy=>by have:=h (i+1) y hy; rwa [show k+(i+1)=k+1+i by omega]at this];try rfl
theorem Jc{xs:List aN}(h1:∀ x∈xs,lr x=true)(h2:xs.Pairwise fun a b=>yK a.1 b.1=true)(h3:xs.length<=4):cU xs=true:=by
 unfold cU;rw[BP _ xs 0 fun i x hx => ?_]
 . simp only[oT]; exact aes (by unfold ae; omega)
 . have hi:=ai hx;have hxx:xs[i]=x:=by have:=aeq hi; rw[this]at hx; exact ae9 hx
   unfold ff;rw[h1 x (hxx ▸ List.getElem_mem hi),aex,oT];cases i with
   | zero=>rfl
   | succ i => rw[aO (show(0:Int)<((i+1:Nat):Int)by omega),oT,show((i+1:Nat):Int)-1=((i:Nat):Int)by omega,aH _ (aeq (show i<xs.length by omega)),<- hxx];exact agN.1 h2 i (i+1) (by omega) hi (by omega)
theorem zc{xs:List aN}(p:aN->Bool)(h:cU xs=true):cU (xs.filter p)=true :=
 Jc (fun x hx=>pI h x (afA.1 hx).1) ((py h).filter _) (aeA (afc _ _) (mS h))
def bU(id:S8)(h:aN):Bool:= !bk h.1 id
theorem JL(xs:List aN)(id:S8)(hs:xs.length<=1048576):AT xs (id,())=zR (cX (fun y=> !bU id y) 0 xs):=by
 have hbig:=bb;unfold AT;have h:=aL (step:=da kY) xs (fun i (_:Unit)=>(xs,((id,()),()),ae xs,((i:Nat):Int),())) (fun i y _=>bif !bU id y then Sum.inr (.inr ((i:Int),()))else Sum.inl ()) (fun _=> .inl (xs,((id,()),()),ae xs,(xs.length:Int),())) (a0:=()) (fun i y u hy=>by
  have hlt:=ai hy;show kY xs ((id,()),()) (ae xs) (i:Int)=_;unfold kY LR bU;rw[aI hy,az hy,aH _ hy,aS (by omega)];dsimp only[oT,oB];cases bk y.1 id <;> rfl) (fun u=>by
  show kY xs ((id,()),()) (ae xs) (xs.length:Int)=_;unfold kY;rw[aA rfl];try rfl)
 have h':C6 xs ((id,()),()) (ae xs) 0=_:=h;rw[h'];have hf:=gf (Y:=Sum ((List aN)×((S8×Unit)×Unit)×Int×Int×Unit) (Int×Unit)) (fun(y:aN)=> !bU id y) (fun n=> .inr (n,())) (.inl (xs,((id,()),()),ae xs,(xs.length:Int),())) (fun y=>match y with | .inl _ => -1 | .inr z=>z.1) (fun _=>rfl) rfl xs 0;rw[<- hf];dsimp only[oB];cases ko _ _ 0 xs () <;> rfl
theorem Bp(xs:List aN)(id:S8)(hs:xs.length<=1048576):yg xs (id,())=zR (xs.filter (bU id)):=by
 have hbig:=bb;have hnn:(fun y:aN=> !(!bU id y))=bU id:=by funext y; simp
 unfold yg;rw[JL xs id hs];dsimp only[oB];by_cases hf:cX (fun y=> !bU id y) 0 xs = -1
 . have:=qC _ _ _ hf;rw[hnn]at this;rw[hf,this];try rfl
 . obtain⟨k,x0,h1,h2,h3,h4⟩:=ld _ _ _ hf;rw[hnn]at h4;rw[aex]at h1;have hk:=ai h2;have he:aj (k:Int) (-1)=false:=by unfold aj; rw[beq_eq_false_iff_ne]; omega
   rw[h1,he,aS (by omega)];dsimp only[oF];obtain⟨⟨cur,i⟩,hI,hl⟩:=mq (step:=da jG) xs (fun j (a:List aN×Nat)=>(a.1,((id,()),()),(a.2:Int),((j:Nat):Int),())) (fun a=> .inl (a.1,((id,()),()),(a.2:Int),(xs.length:Int),())) (fun j a=>a.1.length=xs.length/\a.2<j/\a.1.take a.2=(xs.take j).filter (bU id)/\a.1.drop j=xs.drop j) (fun j x a hx ha=>by
    obtain⟨cur,i⟩:=a;obtain⟨ha1,ha2,ha3,ha4⟩:=ha;simp only at ha1 ha2 ha3 ha4;have hlt:=ai hx;have hcx:cur[j]? = some x:=by
     have e1:(cur.drop j)[0]? = some x:=by rw[ha4,afu,aeQ]; exact hx
     rw[afu,aeQ]at e1;exact e1
    have hdr:cur.drop (j+1)=xs.drop (j+1):=by have:=aeU List.tail ha4;simpa using this
    have hst:jG cur ((id,()),()) (i:Int) (j:Int)=some (.inl (bif bU id x then (cur.set i x,((id,()),()),((i+1:Nat):Int),((j+1:Nat):Int),())else (cur,((id,()),()),(i:Int),((j+1:Nat):Int),()))):=by
     unfold jG LR bU;have hi:i<cur.length:=by omega
     have hsp:cur=cur.take i++cur[i]::cur.drop (i+1):=by rw[<- agt hi,ago]
     have htl:(cur.take i).length=i:=by rw[afd]; omega
     rw[aI hcx,az hcx,aH _ hcx,fK hi,aS (show j<=bG by omega),aS (show i<=bG by omega)];dsimp only[oT,oB];cases bk x.1 id with
     | true=>rfl
     | false =>
       try dsimp only[oT,oF,oN,oM]
       generalize hci:cur[i]=ci at hsp;generalize hD:cur.drop (i+1)=D at hsp;generalize hT:cur.take i=T at hsp htl;rw[hsp];simp only[tw _ htl,gw htl,Hn htl];try rfl
    cases hlv:bU id x with
    | true =>
      rw[hlv]at hst;refine⟨(cur.set i x,i+1),hst,by simp[ha1],by omega,?_,?_⟩
      . show(cur.set i x).take (i+1)=_;have hi:i<cur.length:=by omega
        rw[afU,ag0 hi,List.take_set_of_le (oR _),ha3,afU,hx];simp[af1,hlv]
      . show(cur.set i x).drop (j+1)=_;rw[List.drop_set_of_lt (by omega),hdr]
    | false =>
      rw[hlv]at hst;refine⟨(cur,i),hst,ha1,by omega,?_,hdr⟩;show cur.take i=_;rw[ha3,afU,hx];simp[af1,hlv]) (fun a ha=>by
    show jG a.1 ((id,()),()) (a.2:Int) (xs.length:Int)=_;unfold jG;rw[aA ha.1];try rfl) (xs.length-(k+1)) (k+1) (xs,k) (by omega) ⟨rfl,by omega,by
    show xs.take k=_;have hx0:bU id x0=false:=by simpa using h3
    rw[afU,h2,af1,h4];simp[hx0],rfl⟩
   obtain⟨i1,i2,i3,_⟩:=hI;simp only at i1 i2 i3;have hl':rr xs ((id,()),()) (k:Int) ((k+1:Nat):Int)=some (.inl (cur,((id,()),()),(i:Int),(xs.length:Int),())):=hl;rw[hl'];dsimp only[oB,oL];have c1:dZ (i:Int) (ae cur) cur=true:=by unfold dZ iF bM ae;rw[aes (by omega),aes (by omega),aes (by omega)];try rfl
   have c0:(lY ([],0,0,()) cur (i:Int))=cur.take i++List.replicate (cur.length-i) ([],0,0,()):=by unfold lY Ow; simp
   have c3:Pv (lY d192 cur (i:Int)) (i:Int)=cur.take i:=by
    show Pv (lY ([],0,0,()) cur (i:Int)) (i:Int)=_;rw[c0]; unfold Pv;have:(cur.take i).length=i:=by rw[afd]; omega
    simp only[afs];rw[agi (by omega),afT (by omega)]
   have c2:dZ 0 (i:Int) (lY d192 cur (i:Int))=true:=by show dZ 0 (i:Int) (lY ([],0,0,()) cur (i:Int))=true;rw[c0]; exact jj (by simp; omega)
   rw[c1];dsimp only[oT];rw[c2,c3,i3,agK];try rfl
theorem Bu(xs:List aN)(id:S8)(hs:xs.length<=1048576):BN xs id=zR (xs.filter (bU id)):=by have hbig:=bb;unfold BN Bw;rw[gZ (by omega)];dsimp only[oT,oB];rw[Bp xs id hs];try rfl
def nz(h x:aN):Bool:=yK x.1 h.1
theorem Dj{h x:aN}(hl:nz h x=true):bU h.1 x=true:=by
 unfold nz yK at hl;unfold bU bk;by_cases e:x.1=h.1
 . rw[e,Ds]at hl; simp at hl
 . simp[e]
def j5(xs:List aN)(h:aN):List aN:=xs.takeWhile (nz h)++h::(xs.dropWhile (nz h)).filter (bU h.1)
def fW(xs:List aN)(h:aN):List aN×Bool:=cond (cU xs) (cond (cU (j5 xs h)) (j5 xs h,true) ([],false)) ([],false)
theorem uH{h:aN}:∀ {xs:List aN},(xs.Pairwise fun a b=>yK a.1 b.1=true)->(xs.filter (bU h.1)).takeWhile (nz h)=xs.takeWhile (nz h)/\(xs.filter (bU h.1)).dropWhile (nz h)=(xs.dropWhile (nz h)).filter (bU h.1)
 | [],_=>⟨rfl,rfl⟩
 | x::r,hp=>by
   obtain⟨h1,h2⟩:=List.pairwise_cons.1 hp;cases hx:nz h x with
   | true => obtain⟨i1,i2⟩:=uH h2;rw[afh,if_pos (Dj hx),afI,afI,afV,afV,hx];simp only[if_true];exact⟨by rw[i1],i2⟩
   | false =>
     have hno:∀ y∈(x::r).filter (bU h.1),nz h y=false:=fun y hy=>by
      rcases aew.1 (afA.1 hy).1 with e | e
      . subst e; exact hx
      . cases hyl:nz h y with
        | false=>rfl
        | true => have:=qG _ _ _ (h1 y e) hyl;unfold nz yK at hx;rw[this]at hx;simp at hx
     have hF:∀ F:List aN,(∀ y∈F,nz h y=false)->F.takeWhile (nz h)=[]/\F.dropWhile (nz h)=F:=fun F hF=>by
      cases F with
      | nil=>exact⟨rfl,rfl⟩
      | cons y F=>rw[afI,afV,hF y (aeI ..)]; exact⟨rfl,rfl⟩
     obtain⟨f1,f2⟩:=hF _ hno;rw[f1,f2,afI,afV,hx];exact⟨rfl,rfl⟩
def iL(h x:aN)(a:List aN×Bool):List aN×Bool:=((cond (cond (!a.2) (!nz h x) false) (a.1++[h]) a.1)++(cond (bU h.1 x) [x] []),cond (cond (!a.2) (!nz h x) false) true a.2)
theorem C8{h:aN}:∀(xs:List aN) (out:List aN),xs.foldl (fun a x=>iL h x a) (out,true)=(out++xs.filter (bU h.1),true)
 | [],out=>by simp
 | x::r,out=>by rw[afb,afh];have:iL h x (out,true)=(out++(cond (bU h.1 x) [x] []),true):=rfl;rw[this,C8 r];cases bU h.1 x <;> simp
theorem Dv{h:aN}:∀(xs:List aN) (out:List aN),xs.foldl (fun a x=>iL h x a) (out,false)=(if xs.all (nz h)then (out++xs,false)else (out++j5 xs h,true))
 | [],out=>by simp
 | x::r,out=>by
   rw[afb,afe];cases hx:nz h x with
   | true =>
     have:iL h x (out,false)=(out++[x],false):=by unfold iL; simp only[hx,Dj hx];try rfl
     rw[this,Dv r];have hp:j5 (x::r) h=x::j5 r h:=by unfold j5; rw[afI,afV,hx];try rfl
     rw[hp];simp only[agh,aeV,agp]
   | false =>
     have:iL h x (out,false)=(out++[h]++(cond (bU h.1 x) [x] []),true):=by unfold iL; simp only[hx];try rfl
     rw[this,C8];have hp:j5 (x::r) h=h::(x::r).filter (bU h.1):=by unfold j5; rw[afI,afV,hx];try rfl
     rw[hp,afh];cases bU h.1 x <;> simp
theorem M3{h:aN}{xs:List aN}(ha:xs.all (nz h)=true):j5 xs h=xs++[h]:=by
 have:=aeG.1 ha;have e1:∀ ys:List aN,(∀ y∈ys,nz h y=true)->ys.takeWhile (nz h)=ys/\ys.dropWhile (nz h)=[]:=by
  intro ys;induction ys with
  | nil=>intro _; exact⟨rfl,rfl⟩
  | cons y ys ih =>
    intro hy;obtain⟨i1,i2⟩:=ih fun z hz=>hy z (aeB _ hz)
    rw[afI,afV,hy y (aeI ..)];exact⟨by simp[i1],by simp[i2]⟩
 obtain⟨f1,f2⟩:=e1 xs this;unfold j5;rw[f1,f2];try rfl
theorem QN(xs:List aN)(h:aN):(j5 xs h).length<=xs.length+1:=by
 unfold j5;have h1:=afc (bU h.1) (xs.dropWhile (nz h));have h2:(xs.takeWhile (nz h)).length+(xs.dropWhile (nz h)).length=xs.length:=by rw[<- aep,List.takeWhile_append_dropWhile]
 simp only[aep,aeF];omega
theorem Q5{xs:List aN}{h y:aN}(hy:y∈j5 xs h):y=h∨y∈xs:=by
 unfold j5 at hy;rcases afw.1 hy with hy | hy
 . exact .inr ((List.takeWhile_prefix _).subset hy)
 . rcases aew.1 hy with hy | hy
   . exact .inl hy
   . exact .inr ((List.dropWhile_suffix _).subset (afA.1 hy).1)
theorem Tf{xs:List aN}{h:aN}(hb:qw xs)(hl:xs.length<=1048576)(hh:h.1.length<=bG):qw (j5 xs h):=by
 have hbig:=bb;refine⟨by have:=QN xs h; omega,fun y hy => ?_⟩;rcases Q5 hy with e | e
 . rw[e]; exact hh
 . exact hb.2 y e
theorem S6(xs:List aN)(h:aN)(hb:qw xs)(hl:xs.length<=1048576)(hh:h.1.length<=bG):M1 xs h=some ((),(((fW xs h).1,()),((fW xs h).2,()),())):=by
 have hbig:=bb;unfold M1 fW;rw[Bj xs hb];dsimp only[oB];cases hm:cU xs with
 | false=>rfl
 | true =>
   have hl4:=mS hm;simp only[oT,oN,oF];have hp:=Bj (j5 xs h) (Tf hb hl hh);have h':=aY (step:=BU qa) xs (fun i (a:List aN×Bool)=>(a.1,a.2,xs,ae xs,((i:Nat):Int),h,())) (fun _ x a=>Sum.inl (iL h x a)) (fun a=> .inl (a.1,a.2,xs,ae xs,(xs.length:Int),h,())) (fun i a=>a.1.length<=2 * i) (a0:=([],false)) (oR _) (fun i x a hx ha=>by
    have hlt:=ai hx;show qa a.1 a.2 xs (ae xs) (i:Int) h=_;have e:∀(o:List aN) (y:aN),o.length<=100->a6 32 o [y]=true:=fun o y ho=>aey (by simp; omega)
    have e1:=e a.1 h (by omega);have e2:=e a.1 x (by omega);have e3:=e (eV a.1 [h]) x (by unfold eV; simp; omega);unfold qa iL;rw[aI hx,az hx,aS (by omega)];dsimp only[oT];have eg:gt d192 xs (i:Int)=x:=aH _ hx;rw[eg];have q1:nz h x=yK x.1 h.1:=rfl;have q2:bU h.1 x= !bk x.1 h.1:=rfl;rw[q1,q2,e1,e2,e3];cases a.2 <;> cases yK x.1 h.1 <;> cases bk x.1 h.1 <;> simp[eV]) (fun i x a a' hx ha hf=>by
    simp only[aeO]at hf;rw[<- hf];unfold iL;cases(cond (!a.2) (!nz h x) false) <;> cases bU h.1 x <;> simp <;> omega) (fun a ha=>by
    show qa a.1 a.2 xs (ae xs) (xs.length:Int) h=_;unfold qa;rw[aA rfl];try rfl)
   rw[bH (fun x a=>iL h x a),Dv]at h';have h'':M7 [] false xs (ae xs) 0 h=_:=h';rw[h''];by_cases ha:xs.all (nz h)=true
   . rw[if_pos ha];simp only[oB,oL,af4,oM,oT];have e1:a6 32 xs [h]=true:=aey (by simp; omega);have e2:eV xs [h]=j5 xs h:=(M3 ha).symm;rw[e1,e2,hp];simp only[oT,oB];cases cU (j5 xs h) <;> rfl
   . rw[if_neg ha];simp only[oB,oL,af4,oN,oF];rw[hp];simp only[oB];cases cU (j5 xs h) <;> rfl
theorem MG{α Y:Type}(p:α->Bool)(y:Nat->Y):∀(xs:List α) (i n:Nat),n=i+xs.length->ko (fun i x (_:Unit)=>bif p x then Sum.inl ()else .inr (y i)) (fun _=>y n) i xs ()=y (i+(xs.takeWhile p).length)
 | [],i,n,h=>by simp at h; subst h; simp[ko]
 | x::r,i,n,h=>by
   rw[ko,afI];cases hp:p x with
   | true => simp only[oT,if_true];rw[MG p y r (i+1) n (by simp only[aeF]at h; omega)];congr 1;simp only[aeF]; omega
   | false=>simp
theorem Gd{α:Type}(p:α->Bool):∀(xs:List α),xs.take (xs.takeWhile p).length=xs.takeWhile p/\xs.drop (xs.takeWhile p).length=xs.dropWhile p
 | []=>⟨rfl,rfl⟩
 | x::r=>by
   rw[afI,afV];cases hp:p x with
   | true=>obtain⟨h1,h2⟩:=Gd p r; simp only[if_true,aeF,ag8,List.drop_succ_cons]; exact⟨by rw[h1],h2⟩
   | false=>exact⟨rfl,rfl⟩
theorem Tk(xs:List aN)(h:aN)(hb:qw xs)(hl:xs.length<=1048576)(hh:h.1.length<=bG):M9 xs h=some ((),(((fW xs h).1,()),((fW xs h).2,()),())):=by
 have hbig:=bb;unfold M9 fW;rw[Bg xs hb,Bu xs h.1 hl];dsimp only[oB];cases hm:cU xs with
 | false=>rfl
 | true =>
   have hl4:=mS hm;simp only[oT,oN,oF];have hp:=Bg (j5 xs h) (Tf hb hl hh);obtain⟨s1,s2⟩:=uH (h:=h) (py hm);have hFl:=afc (bU h.1) xs;generalize hF:xs.filter (bU h.1)=F at s1 s2 hFl;obtain⟨t1,t2⟩:=Gd (nz h) F;have htl:(F.takeWhile (nz h)).length<=F.length:=(List.takeWhile_prefix _).length_le;have h':=aL (step:=iT qK) F (fun i (_:Unit)=>(F,((i:Nat):Int),h,())) (fun i x _=>bif nz h x then Sum.inl ()else .inr (.inl (F,((i:Nat):Int),h,()))) (fun _=> .inl (F,(F.length:Int),h,())) (a0:=()) (fun i x a hx=>by
    have hlt:=ai hx;show qK F (i:Int) h=_;have eg:gt d192 F (i:Int)=x:=aH _ hx;have q1:nz h x=yK x.1 h.1:=rfl;unfold qK;rw[aI hx,az hx,aS (by omega),eg,q1];dsimp only[oT];cases yK x.1 h.1 <;> rfl) (fun a=>by
    show qK F (F.length:Int) h=_;unfold qK;rw[aA rfl];try rfl)
   rw[MG (nz h) (fun i=>Sum.inl (F,((i:Nat):Int),h,())) F 0 F.length (by omega),aex]at h';have h'':Lj F 0 h=_:=h';rw[h''];simp only[oB,oL];have hi:Rn F ((F.takeWhile (nz h)).length:Int) [h]=zR (j5 xs h):=by unfold Rn Kb;have e1:bM 0 ((F.takeWhile (nz h)).length:Int)=true:=aes (Int.natCast_nonneg _);have e2:bM ((F.takeWhile (nz h)).length:Int) (F.length:Int)=true:=aes (by omega);have e3:Nat.ble ((F.length+[h].length) * 32) bG=true:=aey (by simp; omega);rw[e1,e2,e3];simp only[Bool.and_self,oT,afs];rw[t1,t2,s1,s2];unfold j5;simp
   rw[hi];simp only[oB];rw[hp];simp only[oB];cases cU (j5 xs h) <;> rfl
theorem Et(xs:List aN)(id:S8)(hs:xs.length<=1048576):FG xs id=zR (xs.filter (bU id)):=by
 have hbig:=bb;unfold FG;have h:=aY (step:=nD qn) xs (fun i (a:List aN)=>(id,a,xs,ae xs,((i:Nat):Int),())) (fun _ x a=>Sum.inl (bif bU id x then a++[x]else a)) (fun a=> .inl (id,a,xs,ae xs,(xs.length:Int),())) (fun i a=>a.length<=i) (a0:=[]) (oR _) (fun i x a hx ha=>by
  have hlt:=ai hx;show qn id a xs (ae xs) (i:Int)=_;unfold qn bU;have e:∀ y:aN,a6 32 a [y]=true:=fun y=>aey (by simp; omega)
  rw[aI hx,az hx,aH _ hx];dsimp only[oT,oB];rw[e,aS (by omega)];cases bk x.1 id <;> rfl) (fun i x a a' hx ha hf=>by
  simp only[aeO]at hf;rw[<- hf];cases bU id x with
  | true=>simp; omega
  | false=>simp; omega) (fun a ha=>by
  show qn id a xs (ae xs) (xs.length:Int)=_;unfold qn;rw[aA rfl];try rfl)
 rw[qq]at h;have h':Ki id [] xs (ae xs) 0=_:=h;rw[h'];try rfl
def lz(a:ar)(id:S8)(amt ttl now:Int):ar×Int :=
 cond (cond (bh a) (cond (a7 now) (bf id) false) false)
  (cond (cE amt 1 9007199254740992)
    (cond (cond (!cE ttl 1 9999) true (aG 1000000000 (aw .i64 now ttl))) (aP,4)
      (cond (bM 0 (aC (ay a now).2.2.2.2.2.1 id)) (aP,6)
        (cond (aj (ae (ay a now).2.2.2.2.2.1) 4) (aP,10)
          (cond (aj (gT (ay a now) amt now) 0)
            (((ay a now).1,(ay a now).2.1,(ay a now).2.2.1,(ay a now).2.2.2.1,(ay a now).2.2.2.2.1,
              (fW (ay a now).2.2.2.2.2.1 (id,amt,aw .i64 now ttl,())).1,
              (dG (fI (ay a now)) now amt).1,(dG (fI (ay a now)) now amt).2.1,(dG (fI (ay a now)) now amt).2.2.1,(dG (fI (ay a now)) now amt).2.2.2.1,(ay a now).2.2.2.2.2.2.2.2.2.2.1,()),0)
            (aP,gT (ay a now) amt now)))))
    (aP,4))
  (aP,1)
theorem T5(a:ar)(id:S8)(amt ttl now:Int)(hb:bA a)(hi:id.length<=1048576):OZ a id amt ttl now=some ((),((lz a id amt ttl now).1,((lz a id amt ttl now).2,()),())):=by
 have hsb:=dq now hb;unfold OZ xV lz;rw[kH a hb,gN,kW id (bJ hi),mo,mo,mU a now hb];dsimp only[oB];generalize ay a now=s at hsb ⊢;have h1:Ew (s.2.2.2.2.2.2.1,s.2.2.2.2.2.2.2.1,s.2.2.2.2.2.2.2.2.1,s.2.2.2.2.2.2.2.2.2.1,()) now amt=_:=zN (fI s) now amt hsb.2.2.1;rw[mD _ id hsb.2.1.1,Nc s amt now hsb,S6 _ (id,amt,aw .i64 now ttl,()) hsb.hs hsb.2.1.1 (bJ hi)];dsimp only[oB];rw[h1];cases bh a <;> first | rfl | skip
 cases a7 now <;> first | rfl | skip
 cases bf id <;> first | rfl | skip
 cases cE amt 1 9007199254740992 <;> first | rfl | skip
 dsimp only[oT,oF,oN,oB];cases(cond (!cE ttl 1 9999) true (aG 1000000000 (aw .i64 now ttl))) <;> first | rfl | skip
 dsimp only[oT,oF,oN,oB];cases bM 0 (aC s.2.2.2.2.2.1 id) <;> first | rfl | skip
 cases aj (ae s.2.2.2.2.2.1) 4 <;> first | rfl | skip
 dsimp only[oT,oF,oN,oB];cases aj (gT s amt now) 0 <;> rfl
theorem Wy(a:ar)(id:S8)(amt ttl now:Int)(hb:bA a)(hi:id.length<=1048576):K5 a id amt ttl now=some ((),((lz a id amt ttl now).1,((lz a id amt ttl now).2,()),())):=by
 have hsb:=dq now hb;unfold K5 sB lz;rw[lP a hb,gL,kI id (bJ hi),jS,jS,ly a now hb];dsimp only[oB];generalize ay a now=s at hsb ⊢;have h1:A0 (s.2.2.2.2.2.2.1,s.2.2.2.2.2.2.2.1,s.2.2.2.2.2.2.2.2.1,s.2.2.2.2.2.2.2.2.2.1,()) now amt=_:=zp (fI s) now amt hsb.2.2.1;have h2:=gU s.2.2.2.2.2.1 id hsb.2.1.1;have h3:=NS s amt now hsb;have h4:=Tk s.2.2.2.2.2.1 (id,amt,aw .i64 now ttl,()) hsb.hs hsb.2.1.1 (bJ hi);cases bh a <;> first | rfl | skip
 cases a7 now <;> first | rfl | skip
 have e00:aj 0 0=true:=rfl;simp only[oT,oF,oN,oM,oB,e00];cases bf id <;> first | rfl | skip
 cases cE amt 1 9007199254740992 <;> first | rfl | skip
 simp only[oT,oF,oN,oM,oB];cases(cond (!cE ttl 1 9999) true (aG 1000000000 (aw .i64 now ttl))) <;> first | rfl | skip
 simp only[oT,oF,oN,oM,oB];rw[h2,h3,h4];dsimp only[oB];rw[h1];cases bM 0 (aC s.2.2.2.2.2.1 id) <;> first | rfl | skip
 cases aj (ae s.2.2.2.2.2.1) 4 <;> first | rfl | skip
 dsimp only[oT,oF,oN,oB];cases aj (gT s amt now) 0 <;> rfl
def LN(a:ar)(l:List aN):ar:=(a.1,a.2.1,a.2.2.1,a.2.2.2.1,a.2.2.2.2.1,l,a.2.2.2.2.2.2.1,a.2.2.2.2.2.2.2.1,a.2.2.2.2.2.2.2.2.1,a.2.2.2.2.2.2.2.2.2.1,a.2.2.2.2.2.2.2.2.2.2.1,())
def sN:aN:=([],0,0,())
def gp(a b:ar)(id:S8)(now:Int):ar×ar×Int :=
 cond (cond (bh a) (cond (a7 now) (bf id) false) false)
  (cond (bh b)
    (cond (bk a.1 b.1) (aP,aP,4)
      (cond (aG (aC (ay a now).2.2.2.2.2.1 id) 0) (aP,aP,5)
        (cond (bM 0 (aC (ay b now).2.2.2.2.2.1 id)) (aP,aP,6)
          (cond (aj (ae (ay b now).2.2.2.2.2.1) 4) (aP,aP,10)
            (cond (aG (gI (ay b now) now) (gt sN (ay a now).2.2.2.2.2.1 (aC (ay a now).2.2.2.2.2.1 id)).2.1) (aP,aP,7)
              (LN (ay a now) ((ay a now).2.2.2.2.2.1.filter (bU id)),LN (ay b now) (fW (ay b now).2.2.2.2.2.1 (gt sN (ay a now).2.2.2.2.2.1 (aC (ay a now).2.2.2.2.2.1 id))).1,0))))))
    (aP,aP,1))
  (aP,aP,1)
theorem Gu{xs:List aN}{k:Int}(hb:∀ y∈xs,y.1.length<=1048576):(gt sN xs k).1.length<=1048576:=by
 unfold gt;rw[afn];cases h:xs[k.toNat]? with
 | none=>exact aeC _
 | some y=>exact hb y (aet h)
theorem Wq(a b:ar)(id:S8)(now:Int)(hb:bA a)(hc:bA b)(hi:id.length<=1048576):Ku a b id now=some ((),((gp a b id now).1,((gp a b id now).2.1,((gp a b id now).2.2,()),()))):=by
 have hsb:=dq now hb;have hsc:=dq now hc;unfold Ku xV gp;rw[kH a hb,gN,kW id (bJ hi),kH b hc,mU a now hb,mU b now hc];dsimp only[oB];generalize ay a now=s at hsb ⊢;generalize ay b now=t at hsc ⊢;rw[mD _ id hsb.2.1.1,mD _ id hsc.2.1.1,EM t now hsc,Et _ id hsb.2.1.1];dsimp only[oB];have hgt:∀ k:Int,gt d192 s.2.2.2.2.2.1 k=gt sN s.2.2.2.2.2.1 k:=fun _=>rfl
 rw[hgt,S6 _ _ hsc.hs hsc.2.1.1 (bJ (Gu hsb.2.1.2))];dsimp only[oB];cases bh a <;> first | rfl | skip
 cases a7 now <;> first | rfl | skip
 cases bf id <;> first | rfl | skip
 cases bh b <;> first | rfl | skip
 cases bk a.1 b.1 <;> first | rfl | skip
 by_cases hat:aC s.2.2.2.2.2.1 id<0
 . rw[aO hat];try rfl
 . rw[aJ hat,kl hat];cases bM 0 (aC t.2.2.2.2.2.1 id) <;> first | rfl | skip
   cases aj (ae t.2.2.2.2.2.1) 4 <;> first | rfl | skip
   dsimp only[oT,oF,oN,oB];cases aG (gI t now) (gt sN s.2.2.2.2.2.1 (aC s.2.2.2.2.2.1 id)).2.1 <;> rfl
theorem WB(a b:ar)(id:S8)(now:Int)(hb:bA a)(hc:bA b)(hi:id.length<=1048576):Ju a b id now=some ((),((gp a b id now).1,((gp a b id now).2.1,((gp a b id now).2.2,()),()))):=by
 have hsb:=dq now hb;have hsc:=dq now hc;unfold Ju sB gp;rw[lP a hb,gL,kI id (bJ hi),lP b hc,ly a now hb,ly b now hc];dsimp only[oB];generalize ay a now=s at hsb ⊢;generalize ay b now=t at hsc ⊢;have h0:=gU [] id (by decide);have h1:=gU s.2.2.2.2.2.1 id hsb.2.1.1;have h2:=gU t.2.2.2.2.2.1 id hsc.2.1.1;have h3:=EE t now hsc;have h4:=Bu s.2.2.2.2.2.1 id hsb.2.1.1;have hgt:∀ k:Int,gt d192 s.2.2.2.2.2.1 k=gt sN s.2.2.2.2.2.1 k:=fun _=>rfl
 have h5:=Tk t.2.2.2.2.2.1 (gt sN s.2.2.2.2.2.1 (aC s.2.2.2.2.2.1 id)) hsc.hs hsc.2.1.1 (bJ (Gu hsb.2.1.2));have e00:aj 0 0=true:=rfl;have e10:aj 1 0=false:=rfl;cases bh a with
 | false => simp only[oT,oF,oN,oM,oB,e00,e10];cases bh b <;> cases a7 now <;> (simp only[oT,oF,oN,oM,oB,h0];try rfl)
 | true =>
 cases a7 now with
 | false => cases bh b <;> (simp only[oT,oF,oN,oM,oB,h0];try rfl)
 | true =>
 cases bh b with
 | false => simp only[oT,oF,oN,oM,oB,h1,e00,e10];cases bf id <;> rfl
 | true =>
 simp only[oT,oF,oN,oM,oB,h1,h2,h3,h4,e00,e10,hgt,h5];cases bf id <;> first | rfl | skip
 cases bk a.1 b.1 <;> first | rfl | skip
 by_cases hat:aC s.2.2.2.2.2.1 id<0
 . rw[aO hat];try rfl
 . rw[aJ hat,kl hat];cases bM 0 (aC t.2.2.2.2.2.1 id) <;> first | rfl | skip
   cases aj (ae t.2.2.2.2.2.1) 4 <;> first | rfl | skip
   simp only[oT,oF,oN,oM,oB];cases aG (gI t now) (gt sN s.2.2.2.2.2.1 (aC s.2.2.2.2.2.1 id)).2.1 <;> rfl
theorem Xo(d:Nat)(h:d<=9):strOf [(dE .u8 (aw .i64 48 (d:Int)),())]=[UInt8.ofNat (48+d)]:=by
 rw[cw (by omega) (by omega)];have:dE .u8 (48+(d:Int))=48+(d:Int):=by unfold dE; rw[IntKind.wrap_u8]; omega
 rw[this];show [UInt8.ofNat (Int.toNat (48+(d:Int)))]=_;rw[show Int.toNat (48+(d:Int))=48+d by omega]
theorem lD{s t:S8}(h:s.length+t.length<=bG):jv s t=true:=aey h
theorem QY{u:Nat}(h:u<18446744073709551616):(Lib.decDigits u).length<=20:=by rw[Lib.decDigits_length]; exact Lib.nDigits_le20 u h
theorem Hw:∀(f u:Nat) (s:S8),u<=f->u<=4611686018427387904->(Lib.decDigits u).length+s.length<=40->∃(u':Nat) (s':S8),NI (u:Int) s=some (.inl ((u':Int),s',()))/\u'<=9/\UInt8.ofNat (48+u')::s'=Lib.decDigits u++s
 | 0,u,s,hf,hm,hl=>by
   refine⟨u,s,dA _ ?_,by omega,?_⟩
   . show nH (u:Int) s=_;unfold nH;rw[aJ (by omega)];try rfl
   . rw[Lib.decDigits,dif_pos (by omega)];try rfl
 | f+1,u,s,hf,hm,hl=>by
   by_cases hu:u<10
   . refine⟨u,s,dA _ ?_,by omega,?_⟩
     . show nH (u:Int) s=_;unfold nH;rw[aJ (by omega)];try rfl
     . rw[Lib.decDigits,dif_pos hu];try rfl
   . have hd:Lib.decDigits u=Lib.decDigits (u / 10)++[UInt8.ofNat (48+u % 10)]:=by rw[Lib.decDigits,dif_neg hu]
     have hbig:=bb;have hl2:(Lib.decDigits (u / 10)).length+(UInt8.ofNat (48+u % 10)::s).length<=40:=by rw[hd,aep]at hl;simp only[aeF,ae7]at hl ⊢;omega
     obtain⟨u',s',h1,h2,h3⟩:=Hw f (u / 10) (UInt8.ofNat (48+u % 10)::s) (by omega) (by omega) hl2;refine⟨u',s',dU _ (x':=(((u / 10:Nat):Int),UInt8.ofNat (48+u % 10)::s,())) ?_ h1,h2,by rw[h3,hd,aeV];try rfl⟩;show nH (u:Int) s=_;unfold nH;have hr:eF (u:Int) 10=((u % 10:Nat):Int):=by unfold eF;rw[afG (by omega)];omega
     have hq:jU .i64 (u:Int) 10=((u / 10:Nat):Int):=by unfold jU;rw[af8 (by omega),IntKind.wrap_i64];omega
     rw[aO (by omega),hr,hq,Xo _ (by omega)];dsimp only[oT];rw[lD (by simp only[aeF,ae7]; omega)];try rfl
def V8(n:Int):S8:=cond (bI n) (Lib.itoa n) []
theorem ZU(n:Int):Rg n=zR (V8 n):=by
 have hbig:=bb;unfold Rg V8;rw[ni];dsimp only[oB];cases hm:bI n with
 | false=>rfl
 | true => have hb:=bl.1 hm;obtain⟨u,rfl⟩:∃ u:Nat,n=u:=⟨n.toNat,by omega⟩;have hlen:=QY (u:=u) (by omega);obtain⟨u',s',h1,h2,h3⟩:=Hw u u [] (oR _) (by omega) (by simp only[ae7]; omega);refine(bn h1).trans ?_;show cond (jv (strOf [(dE .u8 (aw .i64 48 (u':Int)),())]) s') (zR (wz (strOf [(dE .u8 (aw .i64 48 (u':Int)),())]) s')) none=_;rw[Xo _ h2];have hl:=aeU List.length h3;simp only[aeF,afp]at hl h3;rw[lD (by simp only[aeF,ae7]; omega)];rw[Lib.itoa_nonneg,<- h3];try rfl
theorem Bh(x:UInt8):∀ n:Nat,Lib.repeatL [x] n=List.replicate n x
 | 0=>rfl
 | n+1=>by rw[Lib.repeatL,Bh x n];try rfl
def dC(n w:Int):S8:=cond (bI n&&cE w 1 18&&bM (ae (Lib.itoa n)) w) (List.replicate (w-ae (Lib.itoa n)).toNat 48++Lib.itoa n) []
theorem B9(w:Nat)(hw:w<=18):∀(d:Nat) (s:S8),s.length+d=w->LM (w:Int) s=some (.inl ((w:Int),List.replicate d 48++s,()))
 | 0,s,h=>by refine dA _ ?_;show tZ (w:Int) s=_;unfold tZ;rw[aJ (by unfold ae; omega)];try rfl
 | d+1,s,h=>by
   have hbig:=bb;have ih:=B9 w hw d (48::s) (by simp only[aeF]; omega);have e:List.replicate (d+1) (48:UInt8)++s=List.replicate d 48++(48::s):=by rw[List.replicate_succ',aeV];try rfl
   rw[e];refine dU _ (x':=((w:Int),48::s,())) ?_ ih;show tZ (w:Int) s=_;unfold tZ;rw[aO (by unfold ae; omega),lD (by simp only[aeF,ae7]; omega)];try rfl
theorem LW{n:Int}(h:0<=n):1<=(Lib.itoa n).length:=by obtain⟨u,rfl⟩:∃ u:Nat,n=u:=⟨n.toNat,by omega⟩;rw[Lib.itoa_nonneg,Lib.decDigits_length]; exact Lib.nDigits_pos u
theorem EO(n w:Int):IS n w=zR (dC n w):=by
 unfold IS dC;rw[ZU];dsimp only[oB];unfold V8;cases hm:bI n with
 | false=>rfl
 | true =>
   have hb:=bl.1 hm;have hp:=LW hb.1;have he:bk (Lib.itoa n) []=false:=by
    cases hi:Lib.itoa n with
    | nil=>rw[hi]at hp; simp at hp
    | cons x r=>rfl
   rw[oT,he];dsimp only[oF,Bool.true_and];by_cases h1:w<1
   . rw[aO h1,show cE w 1 18=false by unfold cE bM; rw[aeL (by omega)];try rfl];try rfl
   . by_cases h2:18<w
     . rw[aJ h1,aO h2,show cE w 1 18=false by unfold cE bM; rw[aes (show(1:Int)<=w by omega),aeL (by omega)];try rfl];try rfl
     . rw[aJ h1,aJ h2,bl.2 ⟨by omega,by omega⟩];dsimp only[oF,Bool.true_and];by_cases h3:w<ae (Lib.itoa n)
       . rw[aO h3,show bM (ae (Lib.itoa n)) w=false from aeL (by omega)];try rfl
       . rw[aJ h3,show bM (ae (Lib.itoa n)) w=true from aes (by omega)];obtain⟨W,rfl⟩:∃ W:Nat,w=W:=⟨w.toNat,by omega⟩;have h3:(Lib.itoa n).length<=W:=by unfold ae at h3; omega
         have:=B9 W (by omega) (W-(Lib.itoa n).length) (Lib.itoa n) (by omega);dsimp only[oF,oT];rw[this];dsimp only[oB,oL];rw[show((W:Int)-ae (Lib.itoa n)).toNat=W-(Lib.itoa n).length by unfold ae; omega];try rfl
theorem N9{n:Int}(h:4611686018427387904<n)(h2:n<=9223372036854775807):(Lib.itoa n).length=19:=by obtain⟨u,rfl⟩:∃ u:Nat,n=u:=⟨n.toNat,by omega⟩;rw[Lib.itoa_nonneg,Lib.decDigits_length];exact Lib.nDigits_unique 18 u (by omega) (by omega)
theorem Ex(n w:Int)(hn : -9223372036854775808<=n/\n<=9223372036854775807):Jq n w=zR (dC n w):=by
 have hbig:=bb;unfold Jq UT HM dC;dsimp only[oB];rw[jS];by_cases h0:n<0
 . rw[aO h0,show bI n=false by unfold bI cE bM; rw[aeL (by omega)];try rfl];try rfl
 rw[aJ h0];dsimp only[oF,oB];cases hw:cE w 1 18 with
 | false=>rw[Bool.and_false];try rfl
 | true =>
   have hwb:=bl.1 hw;rw[ag1];by_cases h3:w<ae (Lib.itoa n)
   . rw[aO h3,show bM (ae (Lib.itoa n)) w=false from aeL (by omega),Bool.and_false];try rfl
   . have hm:bI n=true:=by
      by_cases hh:4611686018427387904<n
      . have:=N9 hh hn.2;unfold ae at h3; omega
      . exact bl.2 ⟨by omega,by omega⟩
     have hlen:(Lib.itoa n).length<=18:=by unfold ae at h3; omega
     rw[aJ h3,hm,show bM (ae (Lib.itoa n)) w=true from aes (by omega)];have hs:aW .i64 w (ae (Lib.itoa n))=w-ae (Lib.itoa n):=bp (by unfold ae; omega) (by unfold ae; omega);rw[hs];unfold Fu o8;rw[show bM 0 (w-ae (Lib.itoa n))=true from aes (by omega),show Nat.ble (([48]:S8).length * (w-ae (Lib.itoa n)).toNat) bG=true from aey (by simp only[aeF,ae7]; unfold ae; omega)];show cond (jv (Lib.repeatL [48] (w-ae (Lib.itoa n)).toNat) (Lib.itoa n)) (zR (wz (Lib.repeatL [48] (w-ae (Lib.itoa n)).toNat) (Lib.itoa n))) none=_;rw[Bh,lD (by simp only[afv]; unfold ae; omega)];try rfl
theorem iD(n w:Int):(dC n w).length<=18:=by
 unfold dC;cases hc:bI n&&cE w 1 18&&bM (ae (Lib.itoa n)) w with
 | false=>simp
 | true => simp only[aeo]at hc;have h1:=bl.1 hc.1.2;have h2:ae (Lib.itoa n)<=w:=afD hc.2;simp only[oT,aep,afv];unfold ae at h2 ⊢; omega
theorem Ot{a b x:Int}(h0:0<=a)(h:a<=b)(hb:b<=4611686018427387904):eE a x<=eE b x:=by
 have hx:=gz x;generalize hcx:du x=c at hx;have e1:du a=a:=by unfold du; rw[if_neg (by omega),if_neg (by omega)]
 have e2:du b=b:=by unfold du; rw[if_neg (by omega),if_neg (by omega)]
 unfold eE; rw[e1,e2,hcx]; split <;> split <;> omega
theorem Wo{a x:Int}(h0:0<=a)(hb:a<=4611686018427387904):a<=eE a x:=by
 have:=gz x;have e1:du a=a:=by unfold du; rw[if_neg (by omega),if_neg (by omega)]
 unfold eE; rw[e1]; split <;> omega
theorem fold_filter(p:aN->Bool):∀(xs:List aN) (a b:Int),0<=a->a<=b->b<=4611686018427387904->(xs.filter p).foldl (fun a h=>eE a h.2.1) a<=xs.foldl (fun a h=>eE a h.2.1) b
 | [],_,_,_,h,_=>h
 | x::r,a,b,h0,h,hb=>by
   have e1:=vt b x.2.1;have e2:=vt a x.2.1;have e3:=Ot (x:=x.2.1) h0 h hb;have e4:=Wo (x:=x.2.1) (show 0<=b by omega) hb;rw[afh];split
   . exact fold_filter p r _ _ e2.1 e3 e1.2
   . exact fold_filter p r a (eE b x.2.1) h0 (by omega) e1.2
theorem ua:∀(xs:List aN) (a:Int),0<=a->a<=4611686018427387904->0<=xs.foldl (fun a h=>eE a h.2.1) a/\xs.foldl (fun a h=>eE a h.2.1) a<=4611686018427387904
 | [],_,h0,h=>⟨h0,h⟩
 | x::r,a,h0,h=>ua r _ (vt a x.2.1).1 (vt a x.2.1).2
theorem Io{a x y:Int}(h0:0<=x)(h:x<=y)(hb:y<=4611686018427387904):eE a x<=eE a y:=by
 have:=gz a;have e1:du x=x:=by unfold du; rw[if_neg (by omega),if_neg (by omega)]
 have e2:du y=y:=by unfold du; rw[if_neg (by omega),if_neg (by omega)]
 unfold eE; rw[e1,e2]; split <;> split <;> omega
theorem Ec{a:ar}(now:Int)(h:bh a=true):bh (ay a now)=true:=by
 unfold ay;rw[h];cases a7 now with
 | false=>exact h
 | true =>
   simp only[oT];unfold bh at h ⊢;revert h;cases eY a.1 <;> first | exact fun h=>h | skip
   cases cE a.2.1 0 9007199254740992 <;> first | exact fun h=>h | skip
   cases cE a.2.2.2.1 0 1000 <;> first | exact fun h=>h | skip
   cases cE a.2.2.2.2.1 0 9007199254740992 <;> first | exact fun h=>h | skip
   cases bI a.2.2.1 <;> first | exact fun h=>h | skip
   simp only[oT];cases hh:cU a.2.2.2.2.2.1 with
   | false=>intro h; simp at h
   | true =>
     rw[zc _ hh];simp only[oT];have hr:fI (a.1,a.2.1,a.2.2.1,a.2.2.2.1,a.2.2.2.2.1,a.2.2.2.2.2.1.filter (fT now),a.2.2.2.2.2.2.1,a.2.2.2.2.2.2.2.1,a.2.2.2.2.2.2.2.2.1,a.2.2.2.2.2.2.2.2.2.1,a.2.2.2.2.2.2.2.2.2.2.1,())=fI a:=rfl;rw[hr];cases fY (fI a) <;> first | exact fun h=>h | skip
     cases dS a.2.2.2.2.2.2.2.2.2.2.1 <;> first | exact fun h=>h | skip
     simp only[oT];intro h;have h1:eE a.2.2.1 (rI a.2.2.2.2.2.1)<=a.2.1:=afD h;have h2:=fold_filter (fT now) a.2.2.2.2.2.1 0 0 (Int.le_refl _) (Int.le_refl _) (by decide);have h3:=ua a.2.2.2.2.2.1 0 (Int.le_refl _) (by decide);have h4:=ua (a.2.2.2.2.2.1.filter (fT now)) 0 (Int.le_refl _) (by decide);exact aes (Int.le_trans (Io h4.1 h2 h3.2) h1)
theorem Ft{a:ar}(now:Int)(h:bh a=true):gI (ay a now) now=gI a now:=by
 have h2:=Ec now h;unfold gI;rw[h2,h];unfold ay;rw[h];cases a7 now with
 | false=>rfl
 | true => simp only[oT];unfold rE;rw[List.filter_filter];simp only[Bool.and_self]
theorem Bx(a:ar)(now:Int):(ay a now).2.2.1=a.2.2.1:=by
 unfold ay; cases bh a <;> first | rfl | skip
 cases a7 now <;> rfl
def tH(a:ar)(now:Int):S8×Int:=cond (bh a) (cond (a7 now) ((dC (gI a now) 16++[32])++dC a.2.2.1 16,0) ([],1)) ([],1)
theorem aaU(a:ar)(now:Int)(hb:bA a):QX a now=some ((),((tH a now).1,()),((tH a now).2,()),()):=by
 have hbig:=bb;have w1:=iD (gI a now) 16;have w2:=iD a.2.2.1 16;unfold QX tH;rw[kH a hb,gN,EM a now hb];dsimp only[oB];rw[EO,EO];cases bh a <;> first | rfl | skip
 cases a7 now <;> first | rfl | skip
 dsimp only[oB,oN,oF,oT,wz];rw[lD (by simp only[aeF,ae7]; omega),lD (by simp only[aep,aeF,ae7]; omega)];try rfl
theorem Nl(a:ar)(now:Int) : -9223372036854775808<=gI a now/\gI a now<=9223372036854775807:=by
 unfold gI;have z:(-9223372036854775808:Int)<=0/\(0:Int)<=9223372036854775807:=by decide
 cases bh a <;> first | exact z | skip
 cases a7 now <;> first | exact z | skip
 have e:∀ x:Int,-9223372036854775808<=IntKind.i64.wrap x/\IntKind.i64.wrap x<=9223372036854775807:=fun x=>by rw[IntKind.wrap_i64]; omega
 exact e _
theorem Jl{a:ar}(ha:bh a=true) : -9223372036854775808<=a.2.2.1/\a.2.2.1<=9223372036854775807:=by
 unfold bh at ha;cases hm:bI a.2.2.1 with
 | true=>have:=bl.1 hm; omega
 | false => rw[hm]at ha;revert ha;cases eY a.1 <;> cases cE a.2.1 0 9007199254740992 <;> cases cE a.2.2.2.1 0 1000 <;> cases cE a.2.2.2.2.1 0 9007199254740992 <;> simp
theorem GO(a:ar)(now:Int)(hb:bA a):sB a now=cond (bh a) (cond (a7 now) (some ((),(ay a now,((0,()),())))) (some ((),(([],0,0,0,0,[],0,0,[],[],[],()),((1,()),()))))) (some ((),(([],0,0,0,0,[],0,0,[],[],[],()),((1,()),())))):=by
 unfold sB;rw[lP a hb,gL,ly a now hb];dsimp only[oB];cases bh a <;> first | rfl | skip
 cases a7 now <;> rfl
theorem aaK(a:ar)(now:Int)(hb:bA a):LC a now=some ((),((tH a now).1,()),((tH a now).2,()),()):=by
 have hbig:=bb;have w1:=iD (gI a now) 16;have w2:=iD a.2.2.1 16;have hbeg:=GO a now hb;unfold LC tH;cases ha:bh a with
 | false=>rw[ha]at hbeg; rw[hbeg];try rfl
 | true =>
 cases ht:a7 now with
 | false=>rw[ha,ht]at hbeg; rw[hbeg];try rfl
 | true =>
 rw[ha,ht]at hbeg;rw[hbeg];have hr:=EE (ay a now) now (dq now hb);rw[Ft now ha]at hr;have h0:aj 0 0=true:=rfl;have hw:=Ex _ 16 (Nl a now);have hw2:=Ex _ 16 (Jl ha);dsimp only[oT,oB];rw[h0,hr,Bx];dsimp only[oT,oF,oB,oN];rw[hw,hw2];dsimp only[oB,oN,oF,oT,wz];rw[lD (by simp only[aeF,ae7]; omega),lD (by simp only[aep,aeF,ae7]; omega)];try rfl
def Qf(h:Nat)(c:UInt8):Nat:=((h ^^^ c.toNat) * 16777619) % 4294967296
def adP(s:S8):Nat:=s.foldl Qf 2166136261
def Rk(s:S8)(n:Int):Int:=cond (aG n 1) 0 (eF ((adP s:Nat):Int) n)
def gR(xs:List ar)(i:Nat)(x:ar):Bool:=cond (bh x) (cond (decide (0<i)) (yK (gt ([],0,0,0,0,[],0,0,[],[],[],()) xs ((i:Int)-1)).1 x.1) true) false
def je(b:List ar):Bool:=cond (allI (gR b) 0 b) (bM (ae b) 6) false
def dF(b:List ar):Prop:=b.length<=1048576/\∀ a∈b,bA a
theorem Kp(b:List ar)(hb:dF b):Zx (b,())=zR (je b):=by
 have hbig:=bb;have hl:=hb.1;unfold Zx;have h:=aL (step:=da wc) b (fun i (_:Unit)=>(b,ae b,((i:Nat):Int),(b,()),())) (fun i x _=>bif gR b i x then Sum.inl ()else .inr (.inr (false,()))) (fun _=> .inl (b,ae b,(b.length:Int),(b,()),())) (a0:=()) (fun i x a hx=>by
  have hlt:=ai hx;show wc b (ae b) (i:Int) (b,())=_;unfold wc gR;rw[aI hx,az hx,aH _ hx];dsimp only[oT];rw[kH x (hb.2 x (aet hx)),aS (by omega)];dsimp only[oB];cases bh x with
  | false=>rfl
  | true =>
    by_cases h0:0<i
    . rw[aO (show(0:Int)<i by omega),bp (by omega) (by omega),mw hx h0];dsimp only[oT,oF,oN];have e:gt d94 b ((i:Int)-1)=gt ([],0,0,0,0,[],0,0,[],[],[],()) b ((i:Int)-1):=rfl;rw[e,aes h0];cases yK (gt ([],0,0,0,0,[],0,0,[],[],[],()) b ((i:Int)-1)).1 x.1 <;> rfl
    . rw[aJ (show ¬ (0:Int)<i by omega),aeL h0];try rfl) (fun a=>by
  show wc b (ae b) (b.length:Int) (b,())=_;unfold wc;rw[aA rfl];try rfl)
 rw[fF]at h;have h':RN b (ae b) 0 (b,())=_:=h;dsimp only;rw[h'];unfold je;cases allI (gR b) 0 b <;> rfl
theorem M6(b:List ar)(hb:dF b):Zg (b,())=zR (je b):=by
 have hbig:=bb;have hl:=hb.1;unfold Zg;have h:=aL (step:=da wi) b (fun i (_:Unit)=>(b,ae b,((i:Nat):Int),(b,()),())) (fun i x _=>bif gR b i x then Sum.inl ()else .inr (.inr (false,()))) (fun _=> .inl (b,ae b,(b.length:Int),(b,()),())) (a0:=()) (fun i x a hx=>by
  have hlt:=ai hx;show wi b (ae b) (i:Int) (b,())=_;unfold wi gR;rw[aI hx,az hx,aH _ hx];dsimp only[oT];rw[lP x (hb.2 x (aet hx)),aS (by omega)];dsimp only[oB];cases bh x with
  | false=>rfl
  | true =>
    by_cases h0:0<i
    . rw[aO (show(0:Int)<i by omega),bp (by omega) (by omega),mw hx h0];dsimp only[oT,oF,oN];rw[Gw];have e:gt d94 b ((i:Int)-1)=gt ([],0,0,0,0,[],0,0,[],[],[],()) b ((i:Int)-1):=rfl;rw[e,aes h0];cases yK (gt ([],0,0,0,0,[],0,0,[],[],[],()) b ((i:Int)-1)).1 x.1 <;> rfl
    . rw[aJ (show ¬ (0:Int)<i by omega),aeL h0];try rfl) (fun a=>by
  show wi b (ae b) (b.length:Int) (b,())=_;unfold wi;rw[aA rfl];try rfl)
 rw[fF]at h;have h':Sp b (ae b) 0 (b,())=_:=h;dsimp only;rw[h'];unfold je;cases allI (gR b) 0 b <;> rfl
abbrev OS:=Int×List ar×Unit
def sp(n:Nat)(m:Int)(b:List ar):List OS:=(List.range n).map fun(k:Nat)=>((-1:Int),b.filter (fun a=>aj (Rk a.1 m) (k:Int)),())
def ax(xs:List ar)(id:S8):Int:=cX (fun y=>bk y.1 id) 0 xs
theorem wI(xs:List ar)(id:S8)(hs:xs.length<=1048576):W7 (xs,()) id=zR (ax xs id):=by
 have hbig:=bb;unfold W7 ax;have h:=aL (step:=da yx) xs (fun i (_:Unit)=>(id,xs,ae xs,((i:Nat):Int),())) (fun i y _=>bif bk y.1 id then Sum.inr (.inr ((i:Int),()))else Sum.inl ()) (fun _=> .inl (id,xs,ae xs,(xs.length:Int),())) (a0:=()) (fun i y u hy=>by
  have hlt:=ai hy;show yx id xs (ae xs) (i:Int)=_;unfold yx;rw[aI hy,az hy,aH _ hy,aS (by omega)];dsimp only[oT];cases bk y.1 id <;> rfl) (fun u=>by
  show yx id xs (ae xs) (xs.length:Int)=_;unfold yx;rw[aA rfl];try rfl)
 have h':RY id xs (ae xs) 0=_:=h;rw[h'];have hf:=gf (Y:=Sum (S8×(List ar)×Int×Int×Unit) (Int×Unit)) (fun(y:ar)=>bk y.1 id) (fun n=> .inr (n,())) (.inl (id,xs,ae xs,(xs.length:Int),())) (fun y=>match y with | .inl _ => -1 | .inr z=>z.1) (fun _=>rfl) rfl xs 0;rw[<- hf];dsimp only[oB];cases ko _ _ 0 xs () <;> rfl
theorem w6(xs:List ar)(id:S8)(hs:xs.length<=1048576):W4 (xs,()) id=zR (ax xs id):=by
 have hbig:=bb;unfold W4 Wk ax;have h:=aL (step:=da qW) xs (fun i (_:Unit)=>(xs,((id,()),()),ae xs,((i:Nat):Int),())) (fun i y _=>bif bk y.1 id then Sum.inr (.inr ((i:Int),()))else Sum.inl ()) (fun _=> .inl (xs,((id,()),()),ae xs,(xs.length:Int),())) (a0:=()) (fun i y u hy=>by
  have hlt:=ai hy;show qW xs ((id,()),()) (ae xs) (i:Int)=_;unfold qW Wd;rw[aI hy,az hy,aH _ hy,aS (by omega)];dsimp only[oT,oB];cases bk y.1 id <;> rfl) (fun u=>by
  show qW xs ((id,()),()) (ae xs) (xs.length:Int)=_;unfold qW;rw[aA rfl];try rfl)
 have h':My xs ((id,()),()) (ae xs) 0=_:=h;rw[h'];have hf:=gf (Y:=Sum ((List ar)×(R9×Unit)×Int×Int×Unit) (Int×Unit)) (fun(y:ar)=>bk y.1 id) (fun n=> .inr (n,())) (.inl (xs,((id,()),()),ae xs,(xs.length:Int),())) (fun y=>match y with | .inl _ => -1 | .inr z=>z.1) (fun _=>rfl) rfl xs 0;rw[<- hf];dsimp only[oB];cases ko _ _ 0 xs () <;> rfl
theorem w7(xs:List ar)(hb:dF xs):VI (xs,())=zR xs:=by
 have hbig:=bb;have hs:=hb.1;unfold VI;have h:=aY (step:=nD xD) xs (fun i (a:List ar)=>(xs,ae xs,((i:Nat):Int),([],()),(a,()),())) (fun _ x a=>Sum.inl (a++[x])) (fun a=> .inl (xs,ae xs,(xs.length:Int),([],()),(a,()),())) (fun i a=>a.length=i) (a0:=[]) rfl (fun i x a hx ha=>by
  have hlt:=ai hx;have hm:=hb.2 x (aet hx);show xD xs (ae xs) (i:Int) ([],()) (a,())=_;unfold xD;have e:∀ y:ar,a6 160 a [y]=true:=fun y=>aey (by simp; omega)
  have e0:gt d94 xs (i:Int)=x:=aH _ hx;rw[aI hx,az hx,e0];dsimp only[oT];rw[mz x hm];dsimp only[oB];rw[e,aS (by omega)];try rfl) (fun i x a a' hx ha hf=>by
  simp only[aeO]at hf;rw[<- hf,aep,ha];try rfl) (fun a ha=>by
  show xD xs (ae xs) (xs.length:Int) ([],()) (a,())=_;unfold xD;rw[aA rfl];try rfl)
 rw[kK]at h;have h':Sj xs (ae xs) 0 ([],()) ([],())=_:=h;rw[h'];try rfl
theorem x6(xs:List ar)(hb:dF xs):Fx (xs,())=zR xs:=by
 have hbig:=bb;have hs:=hb.1;unfold Fx WT;have h:=aY (step:=BU qh) xs (fun i (a:List ar)=>((),xs,ae xs,((i:Nat):Int),([],()),(a,()),())) (fun _ x a=>Sum.inl (a++[x])) (fun a=> .inl ((),xs,ae xs,(xs.length:Int),([],()),(a,()),())) (fun i a=>a.length=i) (a0:=[]) rfl (fun i x a hx ha=>by
  have hlt:=ai hx;have hm:=hb.2 x (aet hx);show qh () xs (ae xs) (i:Int) ([],()) (a,())=_;unfold qh;have e:∀ y:ar,a6 160 a [y]=true:=fun y=>aey (by simp; omega)
  have e0:gt d94 xs (i:Int)=x:=aH _ hx;rw[aI hx,az hx,e0];dsimp only[oT];rw[Dq x hm];dsimp only[oB];rw[e,aS (by omega)];try rfl) (fun i x a a' hx ha hf=>by
  simp only[aeO]at hf;rw[<- hf,aep,ha];try rfl) (fun a ha=>by
  show qh () xs (ae xs) (xs.length:Int) ([],()) (a,())=_;unfold qh;rw[aA rfl];try rfl)
 rw[kK]at h;have h':Mb () xs (ae xs) 0 ([],()) ([],())=_:=h;rw[h'];try rfl
abbrev fg:=Int×S8×S8×S8×S8×S8×Int×Int×Unit
theorem ES(xs:List (Int×Unit))(v:Int)(hs:xs.length<=1048576):Q1 xs v=zR (bM 0 (cX (fun y=>aj v y.1) 0 xs)):=by
 have hbig:=bb;unfold Q1 U5;have h:=aL (step:=da pV) xs (fun i (_:Unit)=>(xs,v,ae xs,((i:Nat):Int),())) (fun i y _=>bif aj v y.1 then Sum.inr (.inr ((i:Int),()))else Sum.inl ()) (fun _=> .inl (xs,v,ae xs,(xs.length:Int),())) (a0:=()) (fun i y u hy=>by
  have hlt:=ai hy;show pV xs v (ae xs) (i:Int)=_;unfold pV;rw[aI hy,az hy,aH _ hy,aS (by omega)];dsimp only[oT];cases aj v y.1 <;> rfl) (fun u=>by
  show pV xs v (ae xs) (xs.length:Int)=_;unfold pV;rw[aA rfl];try rfl)
 have h':Nv xs v (ae xs) 0=_:=h;rw[h'];have hf:=gf (Y:=Sum ((List (Int×Unit))×Int×Int×Int×Unit) (Int×Unit)) (fun(y:Int×Unit)=>aj v y.1) (fun n=> .inr (n,())) (.inl (xs,v,ae xs,(xs.length:Int),())) (fun y=>match y with | .inl _ => -1 | .inr z=>z.1) (fun _=>rfl) rfl xs 0;rw[<- hf];dsimp only[oB];cases ko _ _ 0 xs () <;> rfl
def KU(op:Int):S8:=gt ([],()) [([],()),([48,49,48,48],()),([48,49,48,48],()),([48,50,50,48],()),([48,50,50,48],()),([48,50,50,48],()),([48,50,48,48],()),([48,49,48,48],()),([48,50,48,48],())] op |>.1
def jY(q:fg):Bool:=cE q.1 1 8&&bk q.2.2.2.2.2.1 (KU q.1)&&eY q.2.1&&aF q.2.2.2.2.1&&aj (ae q.2.2.2.2.1) 6&&(cond (aG q.1 7) (bf q.2.2.2.1) (bk q.2.2.2.1 []))&&(cond (aG q.1 5) (cE q.2.2.2.2.2.2.1 0 999999999999) (aj q.2.2.2.2.2.2.1 0))&&(cond (aj q.1 1) (cE q.2.2.2.2.2.2.2.1 0 9999) (aj q.2.2.2.2.2.2.2.1 0))&&(cond (aj q.1 6) (eY q.2.2.1) (bk q.2.2.1 []))
def CX(q:fg):Prop:=q.2.1.length<=1048576/\q.2.2.1.length<=1048576/\q.2.2.2.1.length<=1048576/\q.2.2.2.2.1.length<=1048576/\q.2.2.2.2.2.1.length<=1048576
theorem nE{op:Int}(h:cE op 1 8=true):op=1∨op=2∨op=3∨op=4∨op=5∨op=6∨op=7∨op=8:=by have:=bl.1 h;omega
theorem TP(q:fg)(hb:CX q):yX q=zR (jY q):=by
 obtain⟨op,acct,other,hold,trace,mti,amt,ttl,_⟩:=q;obtain⟨b1,b2,b3,b4,b5⟩:=hb;cases hop:cE op 1 8 with
 | false => unfold yX DK jY;rw[mo,hop];try rfl
 | true =>
   have k1:=xJ acct (bJ b1);have k2:=xJ other (bJ b2);have k3:=kW hold (bJ b3);have k4:=fe trace (bJ b4);have k5:DK op=zR true:=by unfold DK; rw[mo,hop];try rfl
   have k6:IL op=zR (KU op):=by unfold IL;rw[k5];rcases nE hop with h | h | h | h | h | h | h | h <;> subst h <;> rfl
   have k7:Xd op=zR (aG op 7):=by unfold Xd; rw[k5];try rfl
   have k8:Tz op=zR (aG op 5):=by unfold Tz;rw[mo];rcases nE hop with h | h | h | h | h | h | h | h <;> subst h <;> rfl
   have k9:=mo amt 0 999999999999;have k10:=mo ttl 0 9999;unfold yX jY;dsimp only;rw[k5,k6,k1,k4,k7,k8,k3,k9,k10,k2];dsimp only[oB];rw[hop];cases bk mti (KU op) <;> first | rfl | skip
   cases eY acct <;> first | rfl | skip
   cases aF trace <;> first | rfl | skip
   cases aj (ae trace) 6 <;> first | rfl | skip
   cases aG op 7 <;> cases bf hold <;> cases bk hold [] <;> first | rfl | skip
   all_goals (cases aG op 5 <;> cases cE amt 0 999999999999 <;> cases aj amt 0 <;> first | rfl | skip)
   all_goals (cases aj op 1 <;> cases cE ttl 0 9999 <;> cases aj ttl 0 <;> first | rfl | skip)
   all_goals (cases aj op 6 <;> cases eY other <;> rfl)
theorem UD{op:Int}(hop:cE op 1 8=true):lT op 38=zR (aG op 7)/\lT op 4=zR (aG op 5)/\lT op 14=zR (aj op 1)/\lT op 103=zR (aj op 6):=by unfold lT At;rw[jS,hop];rcases nE hop with h | h | h | h | h | h | h | h <;> subst h <;> refine⟨?_,?_,?_,?_⟩ <;> (refine(aeU (fun z=>Option.bind z fun y2=>some ((),(y2.2.1,()))) (ES _ _ ?_)).trans ?_) <;> first | rfl | decide
theorem WD{op:Int}(hop:cE op 1 8=true):∃(nm:S8×S8) (fs:List (Int×Unit)),At op=some ((),((KU op,nm.1,nm.2,fs,()),()))/\bk nm.2 []=false:=by unfold At;rw[jS,hop];rcases nE hop with h | h | h | h | h | h | h | h <;> subst h <;> exact⟨(_,_),_,rfl,rfl⟩
theorem Tw(q:fg)(hb:CX q):Jd q=zR (jY q):=by
 obtain⟨op,acct,other,hold,trace,mti,amt,ttl,_⟩:=q;obtain⟨b1,b2,b3,b4,b5⟩:=hb;cases hop:cE op 1 8 with
 | false => unfold Jd At jY;rw[jS,hop];try rfl
 | true =>
   have k1:=xS acct (bJ b1);have k2:=xS other (bJ b2);have k3:=kI hold (bJ b3);have k4:vl trace 6=zR (cond (aF trace) (aj (ae trace) 6) false):=by unfold vl; rw[gS trace (bJ b4)];try rfl
   obtain⟨nm,fs,k5,k6⟩:=WD hop;obtain⟨u1,u2,u3,u4⟩:=UD hop;have k9:=jS amt 0 999999999999;have k10:=jS ttl 0 9999;unfold Jd jY;dsimp only;rw[k5,k1,k4,u1,u2,u3,u4,k3,k9,k10,k2];dsimp only[oB];rw[hop,k6];cases bk mti (KU op) <;> first | rfl | skip
   cases eY acct <;> first | rfl | skip
   cases aF trace <;> first | rfl | skip
   cases aj (ae trace) 6 <;> first | rfl | skip
   cases aG op 7 <;> cases bf hold <;> cases bk hold [] <;> cases aG op 5 <;> cases cE amt 0 999999999999 <;> cases aj amt 0 <;> cases aj op 1 <;> cases cE ttl 0 9999 <;> cases aj ttl 0 <;> cases aj op 6 <;> cases eY other <;> cases bk other [] <;> rfl
def NH(a:ar)(p:Int)(l:List aN):ar:=(a.1,a.2.1,p,a.2.2.2.1,a.2.2.2.2.1,l,a.2.2.2.2.2.2.1,a.2.2.2.2.2.2.2.1,a.2.2.2.2.2.2.2.2.1,a.2.2.2.2.2.2.2.2.2.1,a.2.2.2.2.2.2.2.2.2.2.1,())
def oa(a:ar)(id:S8)(amt:Int)(last:Bool)(now:Int):ar×Int :=
 cond (cond (bh a) (cond (a7 now) (bf id) false) false)
  (cond (cE amt 1 9007199254740992)
    (cond (aG (aC (ay a now).2.2.2.2.2.1 id) 0) (aP,5)
      (cond (aG (gt sN (ay a now).2.2.2.2.2.1 (aC (ay a now).2.2.2.2.2.1 id)).2.1 amt) (aP,7)
        (cond (cond last true (aj amt (gt sN (ay a now).2.2.2.2.2.1 (aC (ay a now).2.2.2.2.2.1 id)).2.1))
          (NH (ay a now) (aw .i64 (ay a now).2.2.1 amt) ((ay a now).2.2.2.2.2.1.filter (bU id)),0)
          (NH (ay a now) (aw .i64 (ay a now).2.2.1 amt) (dw (ay a now).2.2.2.2.2.1 (aC (ay a now).2.2.2.2.2.1 id) ((gt sN (ay a now).2.2.2.2.2.1 (aC (ay a now).2.2.2.2.2.1 id)).1,aW .i64 (gt sN (ay a now).2.2.2.2.2.1 (aC (ay a now).2.2.2.2.2.1 id)).2.1 amt,(gt sN (ay a now).2.2.2.2.2.1 (aC (ay a now).2.2.2.2.2.1 id)).2.2.1,())),0))))
    (aP,4))
  (aP,1)
theorem abi(a:ar)(id:S8)(amt:Int)(last:Bool)(now:Int)(hb:bA a)(hi:id.length<=1048576):Kx a id amt last now=some ((),((oa a id amt last now).1,((oa a id amt last now).2,()),())):=by
 have hsb:=dq now hb;unfold Kx xV oa;rw[kH a hb,gN,kW id (bJ hi),mo,mU a now hb];dsimp only[oB];generalize ay a now=s at hsb ⊢;rw[mD _ id hsb.2.1.1,Et _ id hsb.2.1.1];dsimp only[oB];cases bh a <;> first | rfl | skip
 cases a7 now <;> first | rfl | skip
 cases bf id <;> first | rfl | skip
 cases cE amt 1 9007199254740992 <;> first | rfl | skip
 dsimp only[oT,oF,oN,oB];by_cases hat:aC s.2.2.2.2.2.1 id<0
 . rw[aO hat];try rfl
 . rw[aJ hat,kl hat];dsimp only[oT,oF];have eh:gt d192 s.2.2.2.2.2.1 (aC s.2.2.2.2.2.1 id)=gt sN s.2.2.2.2.2.1 (aC s.2.2.2.2.2.1 id):=rfl;rw[eh];cases aG (gt sN s.2.2.2.2.2.1 (aC s.2.2.2.2.2.1 id)).2.1 amt <;> first | rfl | skip
   cases last <;> first | rfl | skip
   cases aj amt (gt sN s.2.2.2.2.2.1 (aC s.2.2.2.2.2.1 id)).2.1 <;> rfl
theorem Em{xs:List aN}{id:S8}(h:¬ aC xs id<0):∃(i:Nat) (y:aN),aC xs id=(i:Int)/\xs[i]? = some y/\y.1=id:=by
 have hne:cX (fun(y:aN)=>bk y.1 id) 0 xs ≠ -1:=fun e=>by unfold aC at h; rw[e]at h; omega
 obtain⟨i,y,h1,h2,h3,_⟩:=ld _ _ _ hne;refine⟨i,y,by unfold aC; rw[h1,aex],h2,by simpa[bk]using h3⟩
theorem wP{id:S8}:∀(xs:List aN) (i:Nat) (y z:aN),xs[i]? = some y->y.1=id->z.1=id->(xs.set i z).filter (bU id)=xs.filter (bU id)
 | [],i,y,z,h,_,_=>by simp at h
 | x::r,0,y,z,h,h1,h2=>by
   simp only[aeu,aen]at h;subst h;have e1:bU id x=false:=by unfold bU bk; rw[h1]; simp
   have e2:bU id z=false:=by unfold bU bk; rw[h2]; simp
   rw[List.set_cons_zero,afh,afh,e1,e2];try rfl
 | x::r,i+1,y,z,h,h1,h2=>by rw[List.set_cons_succ,afh,afh,wP r i y z (by simpa using h) h1 h2]
theorem YL(a:ar)(id:S8)(amt:Int)(last:Bool)(now:Int)(hb:bA a)(hi:id.length<=1048576):Fz a id amt last now=some ((),((oa a id amt last now).1,((oa a id amt last now).2,()),())):=by
 have hsb:=dq now hb;have hok:=fun h=>Ec (a:=a) now h
 unfold Fz FT sB oa;rw[lP a hb,gL,kI id (bJ hi),jS,ly a now hb];dsimp only[oB];generalize ay a now=s at hsb hok ⊢;have h2:=gU s.2.2.2.2.2.1 id hsb.2.1.1;have h0:=gU [] id (by decide);cases hac:bh a with
 | false => simp only[oT,oF,oN,oM,oB];rw[h0];try rfl
 | true =>
 cases a7 now with
 | false => simp only[oT,oF,oN,oM,oB];rw[h0];try rfl
 | true =>
 simp only[oT,oF,oN,oM,oB];rw[h2];dsimp only[oB];cases bf id with
 | false=>rfl
 | true =>
 cases ham:cE amt 1 9007199254740992 with
 | false=>rfl
 | true =>
 by_cases hat:aC s.2.2.2.2.2.1 id<0
 . rw[aO hat];try rfl
 . have e00:aj 0 0=true:=rfl;rw[aJ hat,e00];simp only[oT,oF,oN,oM,oB];have hin:=kl hat;obtain⟨i,y,q1,q2,q3⟩:=Em hat;have eh:gt d192 s.2.2.2.2.2.1 (aC s.2.2.2.2.2.1 id)=y:=by rw[q1]; exact aH _ q2
   have eh2:gt sN s.2.2.2.2.2.1 (aC s.2.2.2.2.2.1 id)=y:=by rw[q1]; exact aH _ q2
   have hyb:1<=y.2.1/\y.2.1<=9007199254740992:=by
    have hs:=hok hac;have hh:cU s.2.2.2.2.2.1=true:=by
     unfold bh at hs;cases hm:cU s.2.2.2.2.2.1 with
     | true=>rfl
     | false => rw[hm]at hs;revert hs;cases eY s.1 <;> cases cE s.2.1 0 9007199254740992 <;> cases cE s.2.2.2.1 0 1000 <;> cases cE s.2.2.2.2.1 0 9007199254740992 <;> cases bI s.2.2.1 <;> simp
    have hm:=pI hh y (aet q2);unfold lr at hm;cases hi1:cE y.2.1 1 9007199254740992 with
    | true=>exact bl.1 hi1
    | false=>rw[hi1]at hm; revert hm; cases bf y.1 <;> simp
   have hamb:=bl.1 ham;rw[eh,eh2,hin];simp only[oT,oF];by_cases hlt:y.2.1<amt
   . rw[aO hlt];try rfl
   . rw[aJ hlt];simp only[oT,oF];have hsub:aW .i64 y.2.1 amt=y.2.1-amt:=bp (by omega) (by omega);have hst:dw s.2.2.2.2.2.1 (aC s.2.2.2.2.2.1 id) (y.1,aW .i64 y.2.1 amt,y.2.2.1,())=s.2.2.2.2.2.1.set i (y.1,aW .i64 y.2.1 amt,y.2.2.1,()):=by
      rw[q1];try rfl
     have hil:=ai q2;have hget:(s.2.2.2.2.2.1.set i (y.1,aW .i64 y.2.1 amt,y.2.2.1,()))[i]? = some (y.1,aW .i64 y.2.1 amt,y.2.2.1,()):=by rw[ag0 hil]
     have hin2:aZ (aC s.2.2.2.2.2.1 id) (dw s.2.2.2.2.2.1 (aC s.2.2.2.2.2.1 id) (y.1,aW .i64 y.2.1 amt,y.2.2.1,()))=true:=by rw[hst,q1]; exact az hget
     have hg2:gt d192 (dw s.2.2.2.2.2.1 (aC s.2.2.2.2.2.1 id) (y.1,aW .i64 y.2.1 amt,y.2.2.1,())) (aC s.2.2.2.2.2.1 id)=(y.1,aW .i64 y.2.1 amt,y.2.2.1,()):=by rw[hst,q1]; exact aH _ hget
     have hdr:BN (dw s.2.2.2.2.2.1 (aC s.2.2.2.2.2.1 id) (y.1,aW .i64 y.2.1 amt,y.2.2.1,())) id=zR (s.2.2.2.2.2.1.filter (bU id)):=by rw[hst,Bu _ id (by rw[afB]; exact hsb.2.1.1),wP _ i y (y.1,aW .i64 y.2.1 amt,y.2.2.1,()) q2 q3 q3]
     have hz:aj (aW .i64 y.2.1 amt) 0=aj amt y.2.1:=by
      rw[hsub];by_cases e:amt=y.2.1
      . rw[ba.2 e,ba.2 (by omega)]
      . rw[uf e,uf (by omega)]
     rw[e00,hin2,hg2];simp only[oT,oF,oN];rw[hdr,hz];cases aj amt y.2.1 <;> cases last <;> rfl
def lE(a:ar)(id:S8)(now:Int):ar×Int :=
 cond (cond (bh a) (cond (a7 now) (bf id) false) false)
  (cond (aG (aC (ay a now).2.2.2.2.2.1 id) 0) (aP,5)
    (NH (ay a now) (ay a now).2.2.1 ((ay a now).2.2.2.2.2.1.filter (bU id)),0))
  (aP,1)
theorem UO(a:ar)(id:S8)(now:Int)(hb:bA a)(hi:id.length<=1048576):P7 a id now=some ((),((lE a id now).1,((lE a id now).2,()),())):=by
 have hsb:=dq now hb;unfold P7 xV lE;rw[kH a hb,gN,kW id (bJ hi),mU a now hb];dsimp only[oB];generalize ay a now=s at hsb ⊢;rw[mD _ id hsb.2.1.1,Et _ id hsb.2.1.1];dsimp only[oB];cases bh a <;> first | rfl | skip
 cases a7 now <;> first | rfl | skip
 cases bf id <;> first | rfl | skip
 dsimp only[oT,oF,oN,oB];cases aG (aC s.2.2.2.2.2.1 id) 0 <;> rfl
theorem VE(a:ar)(id:S8)(now:Int)(hb:bA a)(hi:id.length<=1048576):Mz a id now=some ((),((lE a id now).1,((lE a id now).2,()),())):=by
 have hsb:=dq now hb;unfold Mz FT sB lE;rw[lP a hb,gL,kI id (bJ hi),jS,ly a now hb];dsimp only[oB];generalize ay a now=s at hsb ⊢;have h2:=gU s.2.2.2.2.2.1 id hsb.2.1.1;have h3:=Bu s.2.2.2.2.2.1 id hsb.2.1.1;have h0:=gU [] id (by decide);have e1:cE 1 1 9007199254740992=true:=rfl;cases bh a with
 | false => simp only[oT,oF,oN,oM,oB];rw[h0];try rfl
 | true =>
 cases a7 now with
 | false => simp only[oT,oF,oN,oM,oB];rw[h0];try rfl
 | true =>
 simp only[oT,oF,oN,oM,oB];rw[h2];dsimp only[oB];cases bf id with
 | false=>rfl
 | true =>
 have e00:aj 0 0=true:=rfl;rw[e00,e1];simp only[oT,oF,oN,oM,oB];cases aG (aC s.2.2.2.2.2.1 id) 0 with
 | true=>rfl
 | false => simp only[oT,oF,oN,oM,oB];rw[e00];simp only[oT,oF,oN,oM,oB];rw[h3];try rfl
def ja(a:ar)(now:Int):ar×Int:=cond (bh a) (cond (a7 now) (ay a now,0) (aP,1)) (aP,1)
theorem Pq(a:ar)(now:Int)(hb:bA a):Qb a now=some ((),((ja a now).1,((ja a now).2,()),())):=by
 unfold Qb ja;rw[kH a hb,gN,mU a now hb];dsimp only[oB];cases bh a <;> first | rfl | skip
 cases a7 now <;> rfl
theorem Qa(a:ar)(now:Int)(hb:bA a):Mp a now=some ((),((ja a now).1,((ja a now).2,()),())):=by
 unfold Mp ja;rw[GO a now hb];cases bh a <;> first | rfl | skip
 cases a7 now <;> rfl
theorem dQ{b:List ar}{id:S8}(h:¬ ax b id<0):∃(i:Nat) (y:ar),ax b id=(i:Int)/\b[i]? = some y:=by
 have hne:cX (fun(y:ar)=>bk y.1 id) 0 b ≠ -1:=fun e=>by unfold ax at h; rw[e]at h; omega
 obtain⟨i,y,h1,h2,h3,_⟩:=ld _ _ _ hne;exact⟨i,y,by unfold ax; rw[h1,aex],h2⟩
theorem IW{y:aN}(h:lr y=true):y.1.length<=1048576:=by
 unfold lr at h;cases hi:bf y.1 with
 | false=>rw[hi]at h; simp at h
 | true =>
   unfold bf at hi;cases ha:y.1.all jA with
   | false=>rw[ha]at hi; simp at hi
   | true => rw[ha]at hi;have:=bl.1 (show cE (ae y.1) 1 6=true from hi);unfold ae at this; omega
theorem LJ(xs:List aN)(h:aN):(fW xs h).1.length<=1048576/\∀ y∈(fW xs h).1,y.1.length<=1048576:=by
 unfold fW;cases cU xs with
 | false=>exact⟨aeC _,fun y hy=>by simp at hy⟩
 | true =>
   cases hp:cU (j5 xs h)with
   | false=>exact⟨aeC _,fun y hy=>by simp at hy⟩
   | true => have:=mS hp;exact⟨by show(j5 xs h).length<=_; omega,fun y hy=>IW (pI hp y hy)⟩
theorem zL{r:fj}(now amt:Int)(h:iZ r):iZ (dG r now amt):=by have:=DU r now amt;unfold iZ at h ⊢;rw[this.1,this.2]; exact h
theorem eJ:bA aP:=⟨by decide,⟨by decide,fun y hy=>by simp[aP]at hy⟩,⟨by decide,by decide⟩,by decide,fun y hy=>by simp[aP]at hy⟩
theorem Uh{a:ar}(id:S8)(amt ttl now:Int)(hb:bA a):bA (lz a id amt ttl now).1:=by
 have hsb:=dq now hb;unfold lz;generalize ay a now=s at hsb ⊢;have hp:=LJ s.2.2.2.2.2.1 (id,amt,aw .i64 now ttl,());have hr:=zL now amt hsb.2.2.1;cases cond (bh a) (cond (a7 now) (bf id) false) false <;> first | exact eJ | skip
 cases cE amt 1 9007199254740992 <;> first | exact eJ | skip
 dsimp only[oT];cases(cond (!cE ttl 1 9999) true (aG 1000000000 (aw .i64 now ttl))) <;> first | exact eJ | skip
 cases bM 0 (aC s.2.2.2.2.2.1 id) <;> first | exact eJ | skip
 cases aj (ae s.2.2.2.2.2.1) 4 <;> first | exact eJ | skip
 cases aj (gT s amt now) 0 <;> first | exact eJ | skip
 exact⟨hsb.1,hp,hr,hsb.2.2.2.1,hsb.2.2.2.2⟩
theorem RZ{xs:List aN}{k:Int}{z:aN}(h:xs.length<=1048576/\∀ y∈xs,y.1.length<=1048576)(hz:z.1.length<=1048576):(dw xs k z).length<=1048576/\∀ y∈dw xs k z,y.1.length<=1048576:=by
 unfold dw;refine⟨by rw[afB]; exact h.1,fun y hy => ?_⟩;rcases agw hy with hy | hy
 . exact h.2 y hy
 . rw[hy]; exact hz
theorem x7{xs:List aN}(p:aN->Bool)(h:xs.length<=1048576/\∀ y∈xs,y.1.length<=1048576):(xs.filter p).length<=1048576/\∀ y∈xs.filter p,y.1.length<=1048576 :=
 ⟨aeA (afc _ _) h.1,fun y hy=>h.2 y (afA.1 hy).1⟩
theorem Vg{a:ar}(id:S8)(amt now:Int)(hb:bA a):bA (lC a id amt now).1:=by
 have hsb:=dq now hb;unfold lC;generalize ay a now=s at hsb ⊢;have hg:=Gu (k:=aC s.2.2.2.2.2.1 id) hsb.2.1.2;have hp:=fun v=>RZ (k:=aC s.2.2.2.2.2.1 id) (z:=((gt sN s.2.2.2.2.2.1 (aC s.2.2.2.2.2.1 id)).1,v,(gt sN s.2.2.2.2.2.1 (aC s.2.2.2.2.2.1 id)).2.2.1,())) hsb.2.1 hg
 have hr:=zL now amt hsb.2.2.1;cases cond (bh a) (cond (a7 now) (bf id) false) false <;> first | exact eJ | skip
 cases cE amt 1 9007199254740992 <;> first | exact eJ | skip
 cases aG (aC s.2.2.2.2.2.1 id) 0 <;> first | exact eJ | skip
 cases aj (gT s amt now) 0 <;> first | exact eJ | skip
 exact⟨hsb.1,hp _,hr,hsb.2.2.2.1,hsb.2.2.2.2⟩
theorem Sf{a:ar}(id:S8)(amt:Int)(last:Bool)(now:Int)(hb:bA a):bA (oa a id amt last now).1:=by
 have hsb:=dq now hb;unfold oa;generalize ay a now=s at hsb ⊢;have hg:=Gu (k:=aC s.2.2.2.2.2.1 id) hsb.2.1.2;have hp:=fun v=>RZ (k:=aC s.2.2.2.2.2.1 id) (z:=((gt sN s.2.2.2.2.2.1 (aC s.2.2.2.2.2.1 id)).1,v,(gt sN s.2.2.2.2.2.1 (aC s.2.2.2.2.2.1 id)).2.2.1,())) hsb.2.1 hg
 have hf:=x7 (bU id) hsb.2.1;cases cond (bh a) (cond (a7 now) (bf id) false) false <;> first | exact eJ | skip
 cases cE amt 1 9007199254740992 <;> first | exact eJ | skip
 cases aG (aC s.2.2.2.2.2.1 id) 0 <;> first | exact eJ | skip
 cases aG (gt sN s.2.2.2.2.2.1 (aC s.2.2.2.2.2.1 id)).2.1 amt <;> first | exact eJ | skip
 dsimp only[oT,oF];cases(cond last true (aj amt (gt sN s.2.2.2.2.2.1 (aC s.2.2.2.2.2.1 id)).2.1))
 . exact⟨hsb.1,hp _,hsb.2.2.1,hsb.2.2.2.1,hsb.2.2.2.2⟩
 . exact⟨hsb.1,hf,hsb.2.2.1,hsb.2.2.2.1,hsb.2.2.2.2⟩
theorem UH{a:ar}(id:S8)(now:Int)(hb:bA a):bA (lE a id now).1:=by
 have hsb:=dq now hb;unfold lE;generalize ay a now=s at hsb ⊢;have hf:=x7 (bU id) hsb.2.1;cases cond (bh a) (cond (a7 now) (bf id) false) false <;> first | exact eJ | skip
 cases aG (aC s.2.2.2.2.2.1 id) 0 <;> first | exact eJ | skip
 exact⟨hsb.1,hf,hsb.2.2.1,hsb.2.2.2.1,hsb.2.2.2.2⟩
theorem Va{a b:ar}(id:S8)(now:Int)(hb:bA a)(hc:bA b):bA (gp a b id now).1/\bA (gp a b id now).2.1:=by
 have hsb:=dq now hb;have hsc:=dq now hc;have h00:bA aP/\bA aP:=⟨eJ,eJ⟩;unfold gp;generalize ay a now=s at hsb ⊢;generalize ay b now=t at hsc ⊢;have hf:=x7 (bU id) hsb.2.1;have hp:=LJ t.2.2.2.2.2.1 (gt sN s.2.2.2.2.2.1 (aC s.2.2.2.2.2.1 id));cases cond (bh a) (cond (a7 now) (bf id) false) false <;> first | exact h00 | skip
 cases bh b <;> first | exact h00 | skip
 cases bk a.1 b.1 <;> first | exact h00 | skip
 cases aG (aC s.2.2.2.2.2.1 id) 0 <;> first | exact h00 | skip
 cases bM 0 (aC t.2.2.2.2.2.1 id) <;> first | exact h00 | skip
 cases aj (ae t.2.2.2.2.2.1) 4 <;> first | exact h00 | skip
 cases aG (gI t now) (gt sN s.2.2.2.2.2.1 (aC s.2.2.2.2.2.1 id)).2.1 <;> first | exact h00 | skip
 exact⟨⟨hsb.1,hf,hsb.2.2.1,hsb.2.2.2.1,hsb.2.2.2.2⟩,⟨hsc.1,hp,hsc.2.2.1,hsc.2.2.2.1,hsc.2.2.2.2⟩⟩
theorem O9{a:ar}(now:Int)(hb:bA a):bA (ja a now).1:=by
 have hsb:=dq now hb;unfold ja;cases bh a <;> first | exact eJ | skip
 cases a7 now <;> first | exact eJ | exact hsb
def ma(a b:ar)(q:fg)(now:Int):ar×ar×Int×S8 :=
 cond (aj q.1 1) ((lz a q.2.2.2.1 q.2.2.2.2.2.2.1 q.2.2.2.2.2.2.2.1 now).1,b,(lz a q.2.2.2.1 q.2.2.2.2.2.2.1 q.2.2.2.2.2.2.2.1 now).2,[])
  (cond (aj q.1 2) ((lC a q.2.2.2.1 q.2.2.2.2.2.2.1 now).1,b,(lC a q.2.2.2.1 q.2.2.2.2.2.2.1 now).2,[])
    (cond (aj q.1 3) ((oa a q.2.2.2.1 q.2.2.2.2.2.2.1 (aj q.1 4) now).1,b,(oa a q.2.2.2.1 q.2.2.2.2.2.2.1 (aj q.1 4) now).2,[])
      (cond (aj q.1 4) ((oa a q.2.2.2.1 q.2.2.2.2.2.2.1 (aj q.1 4) now).1,b,(oa a q.2.2.2.1 q.2.2.2.2.2.2.1 (aj q.1 4) now).2,[])
        (cond (aj q.1 5) ((lE a q.2.2.2.1 now).1,b,(lE a q.2.2.2.1 now).2,[])
          (cond (aj q.1 6) ((gp a b q.2.2.2.1 now).1,(gp a b q.2.2.2.1 now).2.1,(gp a b q.2.2.2.1 now).2.2,[])
            (cond (aj q.1 7) (a,b,(tH a now).2,(tH a now).1)
              ((ja a now).1,b,(ja a now).2,[])))))))
theorem aaF(a b:ar)(q:fg)(now:Int)(hb:bA a)(hc:bA b)(hi:q.2.2.2.1.length<=1048576):W0 a b q now=some ((),((ma a b q now).1,(ma a b q now).2.1,((ma a b q now).2.2.1,()),((ma a b q now).2.2.2,()),())):=by
 unfold W0 ma;rw[T5 a _ _ _ now hb hi,VX a _ _ now hb hi,abi a _ _ _ now hb hi,UO a _ now hb hi,Wq a b _ now hb hc hi,aaU a now hb,Pq a now hb];cases aj q.1 1 <;> first | rfl | skip
 cases aj q.1 2 <;> first | rfl | skip
 cases aj q.1 3 <;> first | rfl | skip
 cases aj q.1 4 <;> first | rfl | skip
 cases aj q.1 5 <;> first | rfl | skip
 cases aj q.1 6 <;> first | rfl | skip
 cases aj q.1 7 <;> rfl
theorem Ra{a b:ar}(q:fg)(now:Int)(hb:bA a)(hc:bA b):bA (ma a b q now).1/\bA (ma a b q now).2.1:=by
 unfold ma;cases aj q.1 1 <;> first | exact⟨Uh _ _ _ now hb,hc⟩ | skip
 cases aj q.1 2 <;> first | exact⟨Vg _ _ now hb,hc⟩ | skip
 cases aj q.1 3 <;> first | exact⟨Sf _ _ _ now hb,hc⟩ | skip
 cases aj q.1 4 <;> first | exact⟨Sf _ _ _ now hb,hc⟩ | skip
 cases aj q.1 5 <;> first | exact⟨UH _ now hb,hc⟩ | skip
 cases aj q.1 6 <;> first | exact Va _ now hb hc | skip
 cases aj q.1 7 <;> first | exact⟨hb,hc⟩ | exact⟨O9 now hb,hc⟩
def dn(b:List ar)(q:fg)(now:Int):(List ar)×Int×S8 :=
 cond (je b) (cond (jY q) (cond (a7 now)
  (cond (aj q.1 6)
    (cond (cond (aG (ax b q.2.1) 0) true (aG (ax b q.2.2.1) 0)) ([],3,[])
      (cond (aj (ma (gt aP b (ax b q.2.1)) (gt aP b (ax b q.2.2.1)) q now).2.2.1 0)
        (dw (dw b (ax b q.2.2.1) (ma (gt aP b (ax b q.2.1)) (gt aP b (ax b q.2.2.1)) q now).2.1) (ax b q.2.1) (ma (gt aP b (ax b q.2.1)) (gt aP b (ax b q.2.2.1)) q now).1,0,(ma (gt aP b (ax b q.2.1)) (gt aP b (ax b q.2.2.1)) q now).2.2.2)
        ([],(ma (gt aP b (ax b q.2.1)) (gt aP b (ax b q.2.2.1)) q now).2.2.1,[])))
    (cond (aG (ax b q.2.1) 0) ([],3,[])
      (cond (aj (ma (gt aP b (ax b q.2.1)) (gt aP b (ax b q.2.1)) q now).2.2.1 0)
        (dw b (ax b q.2.1) (ma (gt aP b (ax b q.2.1)) (gt aP b (ax b q.2.1)) q now).1,0,(ma (gt aP b (ax b q.2.1)) (gt aP b (ax b q.2.1)) q now).2.2.2)
        ([],(ma (gt aP b (ax b q.2.1)) (gt aP b (ax b q.2.1)) q now).2.2.1,[]))))
  ([],1,[])) ([],1,[])) ([],1,[])
theorem VQ(b:List ar)(q:fg)(now:Int)(hb:dF b)(hq:CX q):g53 (b,()) q now=some ((),(((dn b q now).1,()),((dn b q now).2.1,()),((dn b q now).2.2,()),())):=by
 have hi:=hq.2.2.1;have a1:=wI b q.2.1 hb.1;have a2:=wI b q.2.2.1 hb.1;have a3:=w7 b hb;unfold g53 dn;rw[Kp b hb,TP q hq,gN,a1,a2];dsimp only[oB];cases je b <;> first | rfl | skip
 cases jY q <;> first | rfl | skip
 cases a7 now <;> first | rfl | skip
 dsimp only[oT,oF,oN];cases h6:aj q.1 6 with
 | true =>
   dsimp only[oT];by_cases n1:ax b q.2.1<0
   . rw[aO n1];try rfl
   by_cases n2:ax b q.2.2.1<0
   . rw[aJ n1,aO n2];try rfl
   obtain⟨i,y,i1,i2⟩:=dQ n1;obtain⟨k,z,j1,j2⟩:=dQ n2;have hy:=hb.2 y (aet i2);have hz:=hb.2 z (aet j2);have e1:gt d94 b (i:Int)=y:=aH _ i2;have e2:gt d94 b (k:Int)=z:=aH _ j2;have e3:gt aP b (i:Int)=y:=aH _ i2;have e4:gt aP b (k:Int)=z:=aH _ j2;have ho:=aaF y z q now hy hz hi;obtain⟨ob1,ob2⟩:=Ra (a:=y) (b:=z) q now hy hz;rw[aJ n1,aJ n2,i1,j1,az i2,az j2,e1,e2,e3,e4];generalize ma y z q now=r at ho ob1 ob2 ⊢;dsimp only[oT,oF];rw[ho];dsimp only[oB];cases aj r.2.2.1 0 with
   | false=>rfl
   | true =>
     dsimp only[oT,oF,oN];rw[a3,mz r.1 ob1,mz r.2.1 ob2];dsimp only[oB];have hlen:(dw b (k:Int) r.2.1).length=b.length:=by unfold dw; rw[afB]
     have hin:aZ (i:Int) (dw b (k:Int) r.2.1)=true:=fK (by rw[hlen]; exact ai i2);by_cases hk:(k:Int)=(i:Int)
     . rw[ba.2 hk,az i2];have:dw (dw b (k:Int) r.2.1) (i:Int) r.1=dw b (i:Int) r.1:=by rw[hk]; unfold dw; exact List.set_set ..
       rw[this];try rfl
     . rw[uf hk,az j2,hin];try rfl
 | false =>
   dsimp only[oF];by_cases n1:ax b q.2.1<0
   . rw[aO n1];try rfl
   obtain⟨i,y,i1,i2⟩:=dQ n1;have hy:=hb.2 y (aet i2);have e1:gt d94 b (i:Int)=y:=aH _ i2;have e3:gt aP b (i:Int)=y:=aH _ i2;have ho:=aaF y y q now hy hy hi;obtain⟨ob1,ob2⟩:=Ra (a:=y) (b:=y) q now hy hy;rw[aJ n1,i1,az i2,e1,e3];generalize ma y y q now=r at ho ob1 ob2 ⊢;dsimp only[oT,oF];rw[ho];dsimp only[oB];cases aj r.2.2.1 0 with
   | false=>rfl
   | true => dsimp only[oT,oF,oN];rw[a3,mz r.1 ob1,mz r.2.1 ob2,bX];dsimp only[oB,oT,oF,oN];rw[az i2];try rfl
theorem FU(n:Nat)(i:Int):G8 n i i=true:=by
 unfold G8;induction n with
 | zero=>rfl
 | succ n ih=>exact(Bool.and_eq_true_iff (x:=Nat.beq i.toNat i.toNat)).2 ⟨Nat.beq_refl _,ih⟩
theorem T8(b:List ar)(q:fg)(now:Int)(hb:dF b)(hq:CX q):Za (b,()) q now=some ((),(((dn b q now).1,()),((dn b q now).2.1,()),((dn b q now).2.2,()),())):=by
 have hi:=hq.2.2.1;have a1:=w6 b q.2.1 hb.1;have a2:=w6 b q.2.2.1 hb.1;have a3:=x6 b hb;unfold Za dn;rw[M6 b hb,Tw q hq,gL,a1,a2];dsimp only[oB];cases je b <;> first | rfl | skip
 cases jY q <;> first | rfl | skip
 cases a7 now <;> first | rfl | skip
 dsimp only[oT,oF,oN];obtain⟨op,acct,other,hold,trace,mti,amt,ttl,_⟩:=q;dsimp only at hi ⊢;cases h6:aj op 6 with
 | true =>
   obtain rfl:=ba.1 h6;have t1:aj (6:Int) 1=false:=rfl;have t2:aj (6:Int) 2=false:=rfl;have t3:aj (6:Int) 3=false:=rfl;have t4:aj (6:Int) 4=false:=rfl;have t5:aj (6:Int) 5=false:=rfl;have t6:aj (6:Int) 6=true:=rfl;dsimp only[oT];by_cases n1:ax b acct<0
   . rw[aO n1];try rfl
   by_cases n2:ax b other<0
   . rw[aJ n1,aO n2];try rfl
   obtain⟨i,y,i1,i2⟩:=dQ n1;obtain⟨k,z,j1,j2⟩:=dQ n2;have hy:=hb.2 y (aet i2);have hz:=hb.2 z (aet j2);have e1:gt d94 b (i:Int)=y:=aH _ i2;have e2:gt d94 b (k:Int)=z:=aH _ j2;have e3:gt aP b (i:Int)=y:=aH _ i2;have e4:gt aP b (k:Int)=z:=aH _ j2;have ho:=WB y z hold now hy hz hi;have hop:ma y z (6,acct,other,hold,trace,mti,amt,ttl,()) now=((gp y z hold now).1,(gp y z hold now).2.1,(gp y z hold now).2.2,[]):=rfl;rw[aJ n1,aJ n2,i1,j1,t1,t2,t3,t4,t5,a3,e3,e4,hop];generalize gp y z hold now=r at ho ⊢;dsimp only[oB,oT,oF];rw[az i2,az j2,e1,e2,ho];dsimp only[oB,oT,oF];cases aj r.2.2 0 with
   | false=>rfl
   | true =>
     have hlen:(dw b (k:Int) r.2.1).length=b.length:=by unfold dw; rw[afB]
     have hin:aZ (i:Int) (dw b (k:Int) r.2.1)=true:=fK (by rw[hlen]; exact ai i2);dsimp only[oT,oF,oN];rw[hin];try rfl
 | false =>
   dsimp only[oF];by_cases n1:ax b acct<0
   . rw[aO n1];try rfl
   obtain⟨i,y,i1,i2⟩:=dQ n1;have hy:=hb.2 y (aet i2);have e1:gt d94 b (i:Int)=y:=aH _ i2;have e3:gt aP b (i:Int)=y:=aH _ i2;rw[aJ n1,i1,a3,e3];dsimp only[oB,oT,oF];rw[az i2,e1,Wy y _ _ _ now hy hi,Uc y _ _ now hy hi,YL y _ _ _ now hy hi,VE y _ now hy hi,aaK y now hy,Qa y now hy,FU];unfold ma;dsimp only[oB,oT,oF];rw[h6];cases aj op 1 with
   | true=>dsimp only[oT]; cases aj (lz y hold amt ttl now).2 0 <;> rfl
   | false =>
   cases aj op 2 with
   | true=>dsimp only[oT,oF]; cases aj (lC y hold amt now).2 0 <;> rfl
   | false =>
   cases aj op 3 with
   | true=>dsimp only[oT,oF]; cases aj (oa y hold amt (aj op 4) now).2 0 <;> rfl
   | false =>
   cases h4:aj op 4 with
   | true=>dsimp only[oT,oF]; cases aj (oa y hold amt true now).2 0 <;> rfl
   | false =>
   cases aj op 5 with
   | true=>dsimp only[oT,oF]; cases aj (lE y hold now).2 0 <;> rfl
   | false =>
   cases aj op 7 with
   | true=>dsimp only[oT,oF]; cases aj (tH y now).2 0 <;> rfl
   | false=>dsimp only[oT,oF]; cases aj (ja y now).2 0 <;> rfl
abbrev aD:=List (Int×Unit)
def zz(b:aD):Prop:=b.length<=1048576/\∀ x∈b,0<=x.1/\x.1<=255
def fM(b:aD)(a k:Nat):aD:=(b.drop a).take k
theorem N1(b:aD)(a k:Nat):sub b (a:Int) ((a+k:Nat):Int)=fM b a k:=by unfold sub fM;rw[afs,afs,List.drop_take,afa]
theorem mK{b:aD}{a k:Nat}(h:a+k<=b.length):(fM b a k).length=k:=by unfold fM;rw[afd,af9];omega
theorem MA{b:aD}{a k i:Nat}{x:Int×Unit}(h:(fM b a k)[i]? = some x):i<k/\b[a+i]? = some x:=by
 unfold fM at h;rw[aft]at h;split at h
 . rw[afu]at h;exact⟨by assumption,h⟩
 . simp at h
theorem Uw{b:aD}{a k:Nat}{x:Int×Unit}(h:x∈fM b a k):x∈b:=agI (ag4 h)
theorem GL{b:aD}{a k:Nat}(h:a+k<=b.length):dZ (a:Int) ((a+k:Nat):Int) b=true:=by show(decide ((0:Int)<=(a:Int))&&(decide ((a:Int)<=((a+k:Nat):Int))&&decide (((a+k:Nat):Int)<=(b.length:Int))))=true;rw[aes (by omega),aes (by omega),aes (by omega)];try rfl
theorem BR(b:aD)(a k:Nat)(hb:b.length<=1048576)(ha:a<=b.length)(hk:k<=1048576):A7 b a k=some ((),(if a+k<=b.length then ((fM b a k,()),(true,()),())else (([],()),(false,()),()))):=by
 unfold A7;have e:aW .i64 (ae b) (a:Int)=(b.length:Int)-a:=bp (by show -4611686018427387904<=(b.length:Int)-a; omega) (by show(b.length:Int)-a<=_; omega);have i1:cE (a:Int) 0 (ae b)=true:=bl.2 ⟨by omega,by show(a:Int)<=(b.length:Int); omega⟩;have e2:aw .i64 (a:Int) (k:Int)=((a+k:Nat):Int):=by rw[cw (by omega) (by omega)]; omega
 dsimp only;rw[jS,e,e2];dsimp only[oB];rw[i1,aJ (a:=(k:Int)) (b:=0) (by omega)];by_cases h:a+k<=b.length
 . rw[aJ (by omega),if_pos h,GL h,N1];try rfl
 . rw[aO (by omega),if_neg h];try rfl
def cP(s:S8):Bool:=s.all fun x=>cond (aG (x.toNat:Int) 32) false (!(aG 126 (x.toNat:Int)))
theorem HC(s:S8)(hs:s.length<=bG):BC s=zR (cP s):=by
 unfold BC;have h:=aL (step:=yO qO) s (fun i (_:Unit)=>(s,((i:Nat):Int),())) (fun _ x _=>bif cond (aG (x.toNat:Int) 32) false (!(aG 126 (x.toNat:Int)))then Sum.inl ()else .inr (.inr (false,()))) (fun _=> .inl (s,(s.length:Int),())) (a0:=()) (fun i x a hx=>by
  have hlt:=ai hx;show qO s (i:Int)=_;unfold qO;rw[aI hx,az hx,eX hx,aS (by omega)];dsimp only[oT];cases aG (x.toNat:Int) 32 <;> cases aG 126 (x.toNat:Int) <;> rfl) (fun a=>by
  show qO s (s.length:Int)=_;unfold qO;rw[aA rfl];try rfl)
 rw[iW]at h;have h':Mx s 0=_:=h;rw[h'];unfold cP;cases s.all _ <;> rfl
theorem QE(s:S8)(hs:s.length<=bG):IH s=zR (cP s):=by
 unfold IH;have h:=aL (step:=iT qv) s (fun i (_:Unit)=>(s,ae s,((i:Nat):Int),())) (fun _ x _=>bif cond (aG (x.toNat:Int) 32) false (!(aG 126 (x.toNat:Int)))then Sum.inl ()else .inr (.inr (false,()))) (fun _=> .inl (s,ae s,(s.length:Int),())) (a0:=()) (fun i x a hx=>by
  have hlt:=ai hx;show qv s (ae s) (i:Int)=_;unfold qv;rw[aI hx,az hx,eX hx,aS (by omega)];dsimp only[oT];cases aG (x.toNat:Int) 32 <;> cases aG 126 (x.toNat:Int) <;> rfl) (fun a=>by
  show qv s (ae s) (s.length:Int)=_;unfold qv;rw[aA rfl];try rfl)
 rw[iW]at h;have h':JZ s (ae s) 0=_:=h;rw[h'];unfold cP;cases s.all _ <;> rfl
def l6(acc:Nat)(s:S8):Nat:=s.foldl (fun n x=>n * 10+(x.toNat-48)) acc
theorem BI:∀(s:S8) (acc k:Nat),s.all er=true->acc<10 ^ k->l6 acc s<10 ^ (k+s.length)
 | [],acc,k,_,h=>h
 | x::s,acc,k,hd,h=>by simp only[afe,aeo]at hd;have:=cl.1 hd.1;have h2:=BI s (acc * 10+(x.toNat-48)) (k+1) hd.2 (by rw[Nat.pow_succ]; omega);rw[aeF,show k+(s.length+1)=k+1+s.length by omega];exact h2
theorem C3:∀(s:S8) (acc:Nat),s.all er=true->l6 acc s<1844674407370955162->Lib.parseUint10 acc s= .ok (l6 acc s)
 | [],acc,_,_=>rfl
 | x::s,acc,hd,h=>by
   simp only[afe,aeo]at hd;have hx:=cl.1 hd.1;have hmono:∀(s:S8) (a:Nat),a<=l6 a s:=fun s=>by
    induction s with
    | nil=>intro a; exact oR _
    | cons y s ih=>intro a; exact aeA (by omega) (ih (a * 10+(y.toNat-48)))
   have h1:=hmono s (acc * 10+(x.toNat-48));have h:l6 (acc * 10+(x.toNat-48)) s<1844674407370955162:=h;have ih:=C3 s (acc * 10+(x.toNat-48)) hd.2 h;unfold Lib.parseUint10;rw[if_pos hx,if_neg (by omega),if_neg (by omega),ih];try rfl
theorem cW{s:S8}:aF s=true↔s.all er=true/\s≠[]:=by
 unfold aF;cases s.all er with
 | false=>simp
 | true=>cases s <;> simp[aG,ae]
def za(s:S8):Option Nat:=if aF s=true/\s.length<=18 then some (l6 0 s)else none
def Pj(o:Option Nat):Option (Unit×((Int×Unit)×(Bool×Unit)×Unit)):=some ((),match o with | some n=>(((n:Int),()),(true,()),()) | none=>((0,()),(false,()),()))
theorem S2(s:S8)(hs:s.length<=bG):E5 s=Pj (za s):=by
 unfold E5 vI za;rw[gS s hs];dsimp only[oB];cases hd:aF s with
 | false=>rfl
 | true =>
   by_cases h18:s.length<=18
   . rw[if_pos ⟨rfl,h18⟩,aey h18];obtain⟨h1,h2⟩:=cW.1 hd;have hb:=BI s 0 0 h1 (by decide);have hb2:l6 0 s<1000000000000000000:=aeK hb (by rw[aex]; exact agL (by decide) h18);have hu:=C3 s 0 h1 (by omega);have hv:Lib.atoiAll s= .ok (l6 0 s:Int):=by
      cases s with
      | nil=>exact absurd rfl h2
      | cons c r => have hc:=aeG.1 h1 c (by simp);have hc:=cl.1 hc;rw[Lib.atoiAll_plain c r (by omega) (by omega)];unfold Lib.parseMag;rw[if_neg (by simp),hu];show(if 9223372036854775808<=l6 0 (c::r)then _ else _)=_;rw[if_neg (by omega)]
     rw[hv];try rfl
   . rw[if_neg (fun h=>h18 h.2)];have:Nat.ble s.length 18=false:=by
      cases h:Nat.ble s.length 18 with
      | false=>rfl
      | true=>exact absurd (aeJ h) h18
     rw[this];try rfl
theorem GX(s:S8)(hs:s.length<=bG):JV s=Pj (za s):=by
 have hbig:=bb;unfold JV za;rw[fe s hs];dsimp only[oB];cases hd:aF s with
 | false=>rfl
 | true =>
   by_cases h18:s.length<=18
   . rw[if_pos ⟨rfl,h18⟩,aJ (by show ¬ (18:Int)<(s.length:Int); omega)];obtain⟨h1,h2⟩:=cW.1 hd;have h:=aY (step:=iT wO) s (fun i (a:Nat)=>(s,(a:Int),((i:Nat):Int),())) (fun _ x a=>Sum.inl (a * 10+(x.toNat-48))) (fun a=> .inl (s,(a:Int),(s.length:Int),())) (fun i a=>a<10 ^ i) (a0:=0) (by decide) (fun i x a hx ha=>by
      have hlt:=ai hx;have hc:=cl.1 (aeG.1 h1 x (aet hx));have h17:a<10 ^ 17:=aeK ha (agL (by decide) (by omega));have h17':a<100000000000000000:=h17;show wO s (a:Int) (i:Int)=_;unfold wO;have m:vi .i64 (a:Int) 10=((a * 10:Nat):Int):=by unfold vi; rw[IntKind.wrap_i64]; omega
      have c:dE .i64 (x.toNat:Int)=(x.toNat:Int):=by unfold dE; rw[IntKind.wrap_i64]; omega
      rw[aI hx,az hx,eX hx,aS (by omega),m,c,cw (by omega) (by omega),bp (by omega) (by omega)];dsimp only[oT];rw[show((a * 10:Nat):Int)+(x.toNat:Int)-48=((a * 10+(x.toNat-48):Nat):Int)by omega]) (fun i x a a' hx ha hf=>by
      have hc:=cl.1 (aeG.1 h1 x (aet hx));simp only[aeO]at hf;rw[<- hf,Nat.pow_succ];omega) (fun a ha=>by
      show wO s (a:Int) (s.length:Int)=_;unfold wO;rw[aA rfl];try rfl)
     rw[bH]at h;have h':Tq s 0 0=_:=h;rw[h'];try rfl
   . rw[if_neg (fun h=>h18 h.2),aO (by show(18:Int)<(s.length:Int); omega)];try rfl
theorem nG{s t:S8}(h:s.length+t.length<=bG):jv s t=true:=aey h
def OA(x:Int×Unit):S8:=[UInt8.ofNat (48+x.1.toNat / 16),UInt8.ofNat (48+x.1.toNat % 16)]
def qg(l:aD):S8:=(l.map OA).flatten
theorem sj:∀ l:aD,(qg l).length=2 * l.length
 | []=>rfl
 | x::r=>by have:=sj r;unfold qg at this ⊢;simp only[aff,List.flatten_cons,aep,this,OA,aeF,ae7];omega
def Bz:S8->aD
 | []=>[]
 | x::r=>((x.toNat:Int),())::Bz r
theorem tL:∀ q:S8,strOf (Bz q)=q
 | []=>rfl
 | x::r=>by show UInt8.ofNat (Int.toNat (x.toNat:Int))::strOf (Bz r)=_;rw[tL r,afs];simp
theorem vB:∀ q:S8,(Bz q).length=q.length
 | []=>rfl
 | x::r=>aeU (· + 1) (vB r)
theorem Gp:∀ q r:S8,Bz (q++r)=Bz q++Bz r
 | [],r=>rfl
 | x::q,r=>aeU (((x.toNat:Int),()) :: ·) (Gp q r)
theorem Cd:∀(n:Nat) (q:S8),(Bz q).drop n=Bz (q.drop n)
 | 0,q=>by simp
 | n+1,[]=>rfl
 | n+1,x::r=>Cd n r
def gP(b:aD)(a n:Nat):Option S8 :=
 if 1<=n/\n<=38/\a+(n+1) / 2<=b.length then
  (if (qg (fM b a ((n+1) / 2))).all er=true/\(n % 2=1->(qg (fM b a ((n+1) / 2))).head? = some 48)then some ((qg (fM b a ((n+1) / 2))).drop (n % 2))else none)
 else none
def rV(o:Option S8)(e:Int):Option (Unit×((S8×Unit)×(Int×Unit)×(Bool×Unit)×Unit)):=some ((),match o with | some s=>((s,()),(e,()),(true,()),()) | none=>(([],()),(0,()),(false,()),()))
theorem BS{s:S8}:s.head? = some 48↔∃ r,s=48::r:=by
 cases s with
 | nil=>simp
 | cons x r=>simp
theorem Nh(n:Nat)(h:n<=1048576):jU .i64 (aw .i64 (n:Int) 1) 2=(((n+1) / 2:Nat):Int):=by rw[cw (by omega) (by omega)];unfold jU;rw[af8 (by omega),IntKind.wrap_i64];omega
theorem HA(n:Nat):aj (eF (n:Int) 2) 1=decide (n % 2=1):=by
 unfold aj eF;rw[afG (by omega)];by_cases h:n % 2=1
 . rw[aes h]; exact beq_iff_eq.2 (by omega)
 . rw[aeL h]; exact beq_eq_false_iff_ne.2 (by omega)
theorem Ym(x:Int×Unit)(h:0<=x.1/\x.1<=255):strOf [((dE .u8 (aw .i64 48 (jU .i64 (dE .i64 x.1) 16))),()),((dE .u8 (aw .i64 48 (eF (dE .i64 x.1) 16))),())]=OA x:=by
 obtain⟨⟨n,hn⟩,hn2⟩:(∃ n:Nat,x.1=n)/\x.1<=255:=⟨⟨x.1.toNat,by omega⟩,h.2⟩;have c:dE .i64 x.1=(n:Int):=by unfold dE; rw[IntKind.wrap_i64]; omega
 have q:jU .i64 (n:Int) 16=((n / 16:Nat):Int):=by unfold jU; rw[af8 (by omega),IntKind.wrap_i64]; omega
 have r:eF (n:Int) 16=((n % 16:Nat):Int):=by unfold eF; rw[afG (by omega)]; omega
 have u:∀ k:Nat,k<=16->dE .u8 (aw .i64 48 (k:Int))=((48+k:Nat):Int):=fun k hk=>by rw[cw (by omega) (by omega)]; unfold dE; rw[IntKind.wrap_u8]; omega
 rw[c,q,r,u _ (by omega),u _ (by omega)];unfold strOf OA;rw[hn];try rfl
theorem ZJ:∀ c:Fin 256,aw .u8 48 (pg .u8 (c.val:Int) 4)=((48+c.val / 16:Nat):Int)/\aw .u8 48 (IX .u8 (c.val:Int) 15)=((48+c.val % 16:Nat):Int):=by decide +kernel
theorem Jf{s:S8}(h:∃ r,s=48::r):(s.drop 1).all er=s.all er:=by obtain⟨r,rfl⟩:=h;rfl
theorem Km{s:S8}(hs:s≠[]):aj (ee s 0) 48=true↔∃ r,s=48::r:=by
 cases s with
 | nil=>exact absurd rfl hs
 | cons x r =>
   show((x.toNat:Int) == 48)=true↔_;rw[beq_iff_eq];refine⟨fun h=>⟨r,?_⟩,fun⟨r',h⟩ => ?_⟩
   . have:x=48:=UInt8.toNat_inj.1 (by show x.toNat=48; omega);rw[this]
   . rw[(List.cons.inj h).1];try rfl
theorem nF{s:S8}(hs:s≠[]):aF s=s.all er:=by
 cases h:s.all er with
 | true=>exact cW.2 ⟨h,hs⟩
 | false =>
   cases h2:aF s with
   | false=>rfl
   | true=>rw[(cW.1 h2).1]at h; simp at h
theorem Qq{s:S8}{n:Nat}(h:n<s.length):s.drop n≠[]:=fun e=>by have:=aeU List.length e;rw[af9]at this;simp only[ae7]at this;omega
theorem DL(b:aD)(a n:Nat)(hb:zz b)(ha:a<=b.length)(hn:n<=1048576):Jo b a n=rV (gP b a n) ((a+(n+1) / 2:Nat):Int):=by
 have hbig:=bb;have hl:=hb.1;unfold Jo gP;have e:aW .i64 (ae b) (a:Int)=(b.length:Int)-a:=bp (by show -4611686018427387904<=(b.length:Int)-a; omega) (by show(b.length:Int)-a<=_; omega);have hq:=Nh n hn;dsimp only;rw[e,hq,aJ (a:=(a:Int)) (b:=0) (by omega),aJ (a:=ae b) (b:=(a:Int)) (by show ¬ (b.length:Int)<a; omega)];by_cases h1:1<=n/\n<=38;rotate_left
 . rw[if_neg (fun h=>h1 ⟨h.1,h.2.1⟩)];by_cases h0:(n:Int)<1
   . rw[aO h0];try rfl
   . rw[aJ h0,aO (by omega)];try rfl
 rw[aJ (a:=(n:Int)) (b:=1) (by omega),aJ (a:=38) (b:=(n:Int)) (by omega)];dsimp only[oF,oT];by_cases h2:a+(n+1) / 2<=b.length;rotate_left
 . rw[if_neg (fun h=>h2 h.2.2),aO (by omega)];try rfl
 rw[if_pos ⟨h1.1,h1.2,h2⟩,aJ (by omega)];dsimp only[oF];have hpl:=mK h2;have h:=aY (step:=nD vY) (fM b a ((n+1) / 2)) (fun i (o:S8)=>(b,(a:Int),(n:Int),o,((a+i:Nat):Int),())) (fun _ x o=>Sum.inl (o++OA x)) (fun o=> .inl (b,(a:Int),(n:Int),o,((a+(n+1) / 2:Nat):Int),())) (fun i o=>o.length=2 * i) (a0:=[]) rfl (fun i x o hx ho=>by
  obtain⟨hik,hg⟩:=MA hx;have hlt:=ai hg;show vY b (a:Int) (n:Int) o ((a+i:Nat):Int)=_;unfold vY;rw[hq,cw (by omega) (by omega),aO (by omega),az hg,aH _ hg];dsimp only[oT];rw[Ym x (hb.2 x (aet hg)),nG (by show o.length+2<=bG; omega),aS (by omega)];try rfl) (fun i x o o' hx ho hf=>by
  simp only[aeO]at hf;rw[<- hf,aep,ho];show 2 * i+2=_;omega) (fun o ho=>by
  show vY b (a:Int) (n:Int) o ((a+(fM b a ((n+1) / 2)).length:Nat):Int)=_;unfold vY;rw[hq,cw (by omega) (by omega),hpl,aJ (by omega)];try rfl)
 have hfold:∀(l:aD) (o:S8),l.foldl (fun o x=>o++OA x) o=o++qg l:=fun l=>by
  induction l with
  | nil=>intro o; simp[qg]
  | cons x r ih=>intro o; rw[afb,ih]; simp[qg]
 rw[bH,hfold,af4]at h;have h':Sb b (a:Int) (n:Int) [] (a:Int)=_:=h;rw[h'];generalize hs:qg (fM b a ((n+1) / 2))=s;have hsl:s.length=2 * ((n+1) / 2):=by rw[<- hs,sj,hpl]
 have hsne:s≠[]:=fun e=>by rw[e]at hsl; simp only[ae7]at hsl; omega
 dsimp only[oB,oL];rw[HA,hq,cw (by omega) (by omega),show(a:Int)+(((n+1) / 2:Nat):Int)=((a+(n+1) / 2:Nat):Int)by omega];by_cases hp:n % 2=1
 . rw[aes hp,hp];have i0:aZ 0 s=true:=fK (i:=0) (by omega);have c1:dZ 1 (ae s) s=true:=by
    show(decide ((0:Int)<=1)&&(decide ((1:Int)<=(s.length:Int))&&decide ((s.length:Int)<=(s.length:Int))))=true;rw[aes (by omega),aes (by omega),aes (by omega)];try rfl
   have sb:sub s 1 (ae s)=s.drop 1:=by show(s.take (Int.toNat (s.length:Int))).drop 1=_;rw[afs,agK]
   rw[i0];dsimp only[oT];by_cases h48:∃ r,s=48::r
   . rw[(Km hsne).2 h48];rw[c1,sb,fe _ (by rw[af9]; omega),nF (Qq (by omega)),Jf h48];dsimp only[oT,oB];cases hd:s.all er with
     | false=>rw[if_neg (fun h=>by simp at h)];try rfl
     | true=>rw[if_pos ⟨rfl,fun _=>BS.2 h48⟩];try rfl
   . have:aj (ee s 0) 48=false:=by
      cases h:aj (ee s 0) 48 with
      | false=>rfl
      | true=>exact absurd ((Km hsne).1 h) h48
     rw[this,if_neg (fun h=>h48 (BS.1 (h.2 rfl)))];try rfl
 . rw[aeL hp];have hp0:n % 2=0:=by omega
   rw[hp0];dsimp only[oF];rw[fe _ (by omega),nF hsne];dsimp only[oB];cases hd:s.all er with
   | false=>rw[if_neg (fun h=>by simp at h)];try rfl
   | true=>rw[if_pos ⟨rfl,fun h=>by simp at h⟩];try rfl
theorem Hs(b:aD)(a n:Nat)(hb:zz b)(ha:a<=b.length)(hn:n<=1048576):ME b a n=rV (gP b a n) ((a+(n+1) / 2:Nat):Int):=by
 have hbig:=bb;have hl:=hb.1;unfold ME gP;rw[jS,Nh n hn];dsimp only[oB];by_cases h1:1<=n/\n<=38;rotate_left
 . rw[if_neg (fun h=>h1 ⟨h.1,h.2.1⟩)];have:cE (n:Int) 1 38=false:=by
    cases h:cE (n:Int) 1 38 with
    | false=>rfl
    | true=>have:=bl.1 h; omega
   rw[this];try rfl
 rw[bl.2 (by omega:(1:Int)<=n/\(n:Int)<=38),BR b a _ hl ha (by omega)];have hloop:∀(t9:aD) (t10:Bool) (p:aD),(∀ x∈p,0<=x.1/\x.1<=255)->p.length<=20->S4 (a:Int) (n:Int) t9 t10 [] p (ae p) 0=some (.inl ((a:Int),(n:Int),t9,t10,Bz (qg p),p,ae p,(p.length:Int),())):=fun t9 t10 p hp hpl=>by
  have h:=aY (step:=OJ wR) p (fun i (o:aD)=>((a:Int),(n:Int),t9,t10,o,p,ae p,((i:Nat):Int),())) (fun _ x o=>Sum.inl (o++Bz (OA x))) (fun o=> .inl ((a:Int),(n:Int),t9,t10,o,p,ae p,(p.length:Int),())) (fun i o=>o.length=2 * i) (a0:=[]) rfl (fun i x o hx ho=>by
   have hlt:=ai hx;have hx2:=hp x (aet hx);show wR (a:Int) (n:Int) t9 t10 o p (ae p) (i:Int)=_;unfold wR;rw[aI hx,az hx,aH _ hx,aS (by omega)];obtain⟨k,hk⟩:∃ k:Nat,x.1=k:=⟨x.1.toNat,by omega⟩;have hf:=ZJ ⟨k,by omega⟩;dsimp only at hf;rw[hk,hf.1,hf.2];dsimp only[oT];have:∀ ys:aD,ys.length=2->a6 1 o ys=true:=fun ys hy=>aey (by rw[hy]; omega)
   rw[this _ rfl];have e1:∀ m:Nat,m<256->(UInt8.ofNat m).toNat=m:=fun m hm=>by simp[agH hm]
   show some (Sum.inl _)=some (Sum.inl _);unfold OA;rw[hk];simp only[afs,Bz,eV,e1 (48+k / 16) (by omega),e1 (48+k % 16) (by omega)]) (fun i x o o' hx ho hf=>by
   simp only[aeO]at hf;rw[<- hf,aep,ho];show 2 * i+2=_;omega) (fun o ho=>by
   show wR (a:Int) (n:Int) t9 t10 o p (ae p) (p.length:Int)=_;unfold wR;rw[aA rfl];try rfl)
  have hfold:∀(l:aD) (o:aD),l.foldl (fun o x=>o++Bz (OA x)) o=o++Bz (qg l):=fun l=>by
   induction l with
   | nil=>intro o; show o=o++[]; rw[afp]
   | cons x r ih=>intro o; rw[afb,ih,show qg (x::r)=OA x++qg r from rfl,Gp,aeV]
  rw[bH,hfold,af4]at h;exact h
 by_cases h2:a+(n+1) / 2<=b.length;rotate_left
 . rw[if_neg h2,if_neg (fun h=>h2 h.2.2)];exact(bn (hloop [] false [] (fun x hx=>by simp at hx) (by simp))).trans rfl
 rw[if_pos h2,if_pos ⟨h1.1,h1.2,h2⟩];have hpl:=mK h2;refine(bn (hloop _ true _ (fun x hx=>hb.2 x (Uw hx)) (by omega))).trans ?_;generalize hs:qg (fM b a ((n+1) / 2))=s;have hsl:s.length=2 * ((n+1) / 2):=by rw[<- hs,sj,hpl]
 have hsne:s≠[]:=fun e=>by rw[e]at hsl; simp only[ae7]at hsl; omega
 show Option.bind (tP (strOf (Bz s))) _=_;rw[tL,gS _ (by omega),nF hsne];generalize hm:Bz s=m;have hlm:ae m=(s.length:Int):=by rw[<- hm]; show((Bz s).length:Int)=_; rw[vB]
 have hcut:aW .i64 (s.length:Int) (n:Int)=((n % 2:Nat):Int):=by rw[bp (by omega) (by omega)]; omega
 have hpc:ae (fM b a ((n+1) / 2))=(((n+1) / 2:Nat):Int):=by show((fM b a _).length:Int)=_; rw[hpl]
 have c1:dZ ((n % 2:Nat):Int) (s.length:Int) m=true:=by show(decide ((0:Int)<=((n % 2:Nat):Int))&&(decide (((n % 2:Nat):Int)<=(s.length:Int))&&decide ((s.length:Int)<=(m.length:Int))))=true;rw[show(m.length:Int)=(s.length:Int)from hlm,aes (by omega),aes (by omega),aes (by omega)];try rfl
 have sb:strOf (sub m ((n % 2:Nat):Int) (s.length:Int))=s.drop (n % 2):=by rw[<- hm];show strOf (((Bz s).take (Int.toNat (s.length:Int))).drop (Int.toNat ((n % 2:Nat):Int)))=_;rw[afs,afs,afT (by rw[vB]; exact oR _)];exact(aeU strOf (Cd _ _)).trans (tL _)
 have hF:(cond (dZ (aW .i64 (ae m) (n:Int)) (ae m) m) (some ((),((strOf (sub m (aW .i64 (ae m) (n:Int)) (ae m)),()),(aw .i64 (a:Int) (ae (fM b a ((n+1) / 2))),()),(true,()),()))) none:Option (Unit×((S8×Unit)×(Int×Unit)×(Bool×Unit)×Unit)))=rV (some (s.drop (n % 2))) ((a+(n+1) / 2:Nat):Int):=by rw[hlm,hcut,hpc,cw (by omega) (by omega),c1,sb,show(a:Int)+(((n+1) / 2:Nat):Int)=((a+(n+1) / 2:Nat):Int)by omega];try rfl
 show cond (!(s.all er)) (some ((),(([],()),(0,()),(false,()),()))) (cond (aj (eF (n:Int) 2) 1) (cond (aZ 0 m) (cond (!(aj (gt (0,()) m 0).1 48)) (some ((),(([],()),(0,()),(false,()),()))) (cond (dZ (aW .i64 (ae m) (n:Int)) (ae m) m) (some ((),((strOf (sub m (aW .i64 (ae m) (n:Int)) (ae m)),()),(aw .i64 (a:Int) (ae (fM b a ((n+1) / 2))),()),(true,()),()))) none)) none)
  (cond (dZ (aW .i64 (ae m) (n:Int)) (ae m) m) (some ((),((strOf (sub m (aW .i64 (ae m) (n:Int)) (ae m)),()),(aw .i64 (a:Int) (ae (fM b a ((n+1) / 2))),()),(true,()),()))) none))=_
 rw[hF,HA];cases hd:s.all er with
 | false=>rw[if_neg (fun h=>by simp at h)];try rfl
 | true =>
   by_cases hp:n % 2=1
   . rw[aes hp];subst hm;have hm0:∃ x r,s=x::r:=by
      cases s with
      | nil=>exact absurd rfl hsne
      | cons x r=>exact⟨x,r,rfl⟩
     obtain⟨x,r,rfl⟩:=hm0;have i0:aZ 0 (Bz (x::r))=true:=fK (i:=0) (by rw[vB]; simp);rw[i0];show cond (!(aj (x.toNat:Int) 48)) _ _=_;by_cases h48:x.toNat=48
     . have hx:x=48:=UInt8.toNat_inj.1 h48;rw[show aj (x.toNat:Int) 48=true from beq_iff_eq.2 (by omega),if_pos ⟨rfl,fun _=>by rw[hx];try rfl⟩];try rfl
     . rw[show aj (x.toNat:Int) 48=false from beq_eq_false_iff_ne.2 (by omega),if_neg (fun h=>by obtain⟨r',h⟩:=BS.1 (h.2 hp);rw[(List.cons.inj h).1]at h48;exact h48 rfl)];try rfl
   . rw[aeL hp,if_pos ⟨rfl,fun h=>absurd h hp⟩];try rfl
def sM(p:aD)(i:Nat):Bool:=aj (eF (pg .i64 (dE .i64 (p.getD (i / 8) (0,())).1) ((7-i % 8:Nat):Int)) 2) 1
def fc(p:aD):aD:=((List.range 64).filter (sM p)).map fun i=>(((i+1:Nat):Int),())
theorem Uj:∀(c:Fin 256) (r:Fin 8),(!(aj (IX .u8 (c.val:Int) (pg .u8 128 (r.val:Int))) 0))=aj (eF (pg .i64 (dE .i64 (c.val:Int)) ((7-r.val:Nat):Int)) 2) 1:=by decide +kernel
theorem uo(p:aD):∀(l:List Nat) (o:aD),l.foldl (fun o i=>bif sM p i then o++[(((i+1:Nat):Int),())]else o) o=o++(l.filter (sM p)).map fun i=>(((i+1:Nat):Int),())
 | [],o=>by simp
 | i::l,o=>by rw[afb,uo p l,afh];cases sM p i <;> simp
theorem Hg{i x:Nat}(h:(List.range 64)[i]? = some x):x=i/\i<64:=by have:=(aeW.1 h);obtain⟨h1,h2⟩:=this;rw[List.getElem_range]at h2;exact⟨h2.symm,by simpa using h1⟩
theorem Qu{i:Nat}(h:i<64):aW .i64 ((i+1:Nat):Int) 1=(i:Int)/\jU .i64 (i:Int) 8=((i / 8:Nat):Int)/\eF (i:Int) 8=((i % 8:Nat):Int)/\bM ((i+1:Nat):Int) 64=true:=by
 refine⟨by rw[bp (by omega) (by omega)]; omega,?_,?_,aes (by omega)⟩
 . unfold jU;rw[af8 (by omega),IntKind.wrap_i64];omega
 . unfold eF;rw[afG (by omega)];omega
def pr(b:aD)(a:Nat):Option (Unit×((aD×Unit)×(Int×Unit)×(Bool×Unit)×Unit)):=some ((),(if a+8<=b.length then ((fc (fM b a 8),()),(((a+8:Nat):Int),()),(true,()),())else (([],()),(0,()),(false,()),())))
theorem G2(b:aD)(a k i:Nat)(hi:i<k)(h:a+k<=b.length):∃ x,b[a+i]? = some x/\(fM b a k).getD i (0,())=x/\(fM b a k)[i]? = some x:=by obtain⟨x,hx⟩:∃ x,(fM b a k)[i]? = some x:=⟨_,aeq (by rw[mK h]; exact hi)⟩;exact⟨x,(MA hx).2,by rw[afn,hx];try rfl,hx⟩
theorem Lh(b:aD)(a:Nat)(hb:zz b)(ha:a<=b.length):Fa b a=pr b a:=by
 have hbig:=bb;have hl:=hb.1;unfold Fa pr;have e:aW .i64 (ae b) 8=(b.length:Int)-8:=bp (by show -4611686018427387904<=(b.length:Int)-8; omega) (by show(b.length:Int)-8<=_; omega);rw[e,aJ (a:=(a:Int)) (b:=0) (by omega)];by_cases h8:a+8<=b.length;rotate_left
 . rw[if_neg h8,aO (by omega)];try rfl
 rw[if_pos h8,aJ (by omega)];have h:=aY (step:=da tG) (List.range 64) (fun i (o:aD)=>(b,(a:Int),o,((i+1:Nat):Int),())) (fun _ x o=>Sum.inl (bif sM (fM b a 8) x then o++[(((x+1:Nat):Int),())]else o)) (fun o=> .inl (b,(a:Int),o,65,())) (fun i o=>o.length<=i) (a0:=[]) (oR _) (fun i x o hx ho=>by
  obtain⟨rfl,hi⟩:=Hg hx;obtain⟨e1,e2,e3,e4⟩:=Qu hi;obtain⟨c,hc,hd,_⟩:=G2 b a 8 (x / 8) (by omega) h8;show tG b (a:Int) o ((x+1:Nat):Int)=_;unfold tG;have e5:aW .i64 7 ((x % 8:Nat):Int)=((7-x % 8:Nat):Int):=by rw[bp (by omega) (by omega)]; omega
  have e6:aw .i64 (a:Int) ((x / 8:Nat):Int)=((a+x / 8:Nat):Int):=by rw[cw (by omega) (by omega)]; omega
  have hbit:sM (fM b a 8) x=aj (eF (pg .i64 (dE .i64 c.1) ((7-x % 8:Nat):Int)) 2) 1:=by unfold sM; rw[hd]
  dsimp only;rw[e4,e1,e2,e3,e5,e6,az hc,aH _ hc,show bM 0 ((7-x % 8:Nat):Int)=true from aes (by omega),<- hbit,aS (by omega)];have:a6 8 o [(((x+1:Nat):Int),())]=true:=aey (by show(o.length+1) * 8<=bG; omega);rw[this];cases sM (fM b a 8) x <;> rfl) (fun i x o o' hx ho hf=>by
  simp only[aeO]at hf;rw[<- hf];cases sM (fM b a 8) x with
  | false=>show o.length<=_; omega
  | true=>show(o++[_]).length<=_; rw[aep]; show o.length+1<=_; omega) (fun o ho=>by
  show tG b (a:Int) o (((List.range 64).length+1:Nat):Int)=_;rfl)
 rw[bH,uo,af4]at h;have h':Ld b (a:Int) [] 1=_:=h;refine(bn h').trans ?_;show some ((),((_,()),(aw .i64 (a:Int) 8,()),(true,()),()))=_;rw[cw (by omega) (by omega)];try rfl
theorem KL(b:aD)(a:Nat)(hb:zz b)(ha:a<=b.length):CP b a=pr b a:=by
 have hbig:=bb;have hl:=hb.1;unfold CP pr;have hp:A7 b (a:Int) 8=_:=BR b a 8 hl ha (by decide);rw[hp];by_cases h8:a+8<=b.length;rotate_left
 . rw[if_neg h8,if_neg h8];try rfl
 rw[if_pos h8,if_pos h8];generalize hq:fM b a 8=p;have h:=aY (step:=da sR) (List.range 64) (fun i (o:aD)=>((a:Int),p,o,((i+1:Nat):Int),())) (fun _ x o=>Sum.inl (bif sM p x then o++[(((x+1:Nat):Int),())]else o)) (fun o=> .inl ((a:Int),p,o,65,())) (fun i o=>o.length<=i) (a0:=[]) (oR _) (fun i x o hx ho=>by
  obtain⟨rfl,hi⟩:=Hg hx;obtain⟨e1,e2,e3,e4⟩:=Qu hi;obtain⟨c,hc,hd,hc2⟩:=G2 b a 8 (x / 8) (by omega) h8;rw[hq]at hd hc2;have hcb:=hb.2 c (aet hc);show sR (a:Int) p o ((x+1:Nat):Int)=_;unfold sR;obtain⟨k,hk⟩:∃ k:Nat,c.1=k:=⟨c.1.toNat,by omega⟩;have hbe:=Uj ⟨k,by omega⟩ ⟨x % 8,by omega⟩;dsimp only at hbe;have hbit:sM p x= !(aj (IX .u8 c.1 (pg .u8 128 ((x % 8:Nat):Int))) 0):=by unfold sM; rw[hd,hk,hbe]
  dsimp only;rw[e4,e1,e2,e3,az hc2,aH _ hc2,show bM 0 ((x % 8:Nat):Int)=true from aes (by omega),<- hbit,aS (by omega)];have:a6 8 o [(((x+1:Nat):Int),())]=true:=aey (by show(o.length+1) * 8<=bG; omega);rw[this];cases sM p x <;> rfl) (fun i x o o' hx ho hf=>by
  simp only[aeO]at hf;rw[<- hf];cases sM p x with
  | false=>show o.length<=_; omega
  | true=>show(o++[_]).length<=_; rw[aep]; show o.length+1<=_; omega) (fun o ho=>by
  show sR (a:Int) p o (((List.range 64).length+1:Nat):Int)=_;rfl)
 rw[bH,uo,af4]at h;have h':Ky (a:Int) p [] 1=_:=h;refine(bn h').trans ?_;show some ((),((_,()),(aw .i64 (a:Int) 8,()),(true,()),()))=_;rw[cw (by omega) (by omega)];try rfl
theorem mH(p:aD):(fc p).length<=64:=by unfold fc;rw[afO];exact aeA (afc _ _) (by simp)
theorem Kq{p:aD}{x:Int×Unit}(h:x∈fc p):1<=x.1/\x.1<=64:=by obtain⟨i,hi,rfl⟩:=afM.1 h;have:=afy.1 (afA.1 hi).1;constructor <;> (show _<=_) <;> omega
abbrev Ts:=Int×Int×Int×Unit
def jE:List Ts:=[(2,3,19,()),(3,1,6,()),(4,1,12,()),(7,1,10,()),(11,1,6,()),(14,1,4,()),(37,2,12,()),(38,2,6,()),(39,2,2,()),(41,2,8,()),(48,5,60,()),(49,1,3,()),(54,5,60,()),(95,2,12,()),(102,4,20,()),(103,4,20,())]
def Jz(no:Int):Ts:=(jE.find? fun r=>aj r.1 no).getD (0,0,0,())
def bg(no:Int):Int:=(Jz no).2.1
def fE(no:Int):Int:=(Jz no).2.2.1
theorem my{α Y:Type}(p:α->Bool)(y:α->Y)(z:Y):∀(l:List α) (i:Nat),ko (fun _ x (_:Unit)=>bif p x then .inr (y x)else .inl ()) (fun _=>z) i l ()=match l.find? p with | some x=>y x | none=>z
 | [],_=>rfl
 | x::l,i=>by
   have ih:=my p y z l (i+1);rw[List.find?_cons,ko];cases p x with
   | true=>rfl
   | false=>exact ih
theorem MU(no:Int):Ix no=some ((),(Jz no,())):=by
 unfold Ix;have h:=aL (step:=nD sZ) jE (fun i (_:Unit)=>(no,jE,ae jE,((i:Nat):Int),(0,0,0,()),())) (fun _ x _=>bif aj x.1 no then .inr (.inr (x,()))else .inl ()) (fun _=> .inl (no,jE,ae jE,(jE.length:Int),(0,0,0,()),())) (a0:=()) (fun i x a hx=>by
  have hlt:=ai hx;have h16:jE.length=16:=rfl;have hbig:=bb;show sZ no jE (ae jE) (i:Int) (0,0,0,())=_;unfold sZ;rw[aI hx,az hx,aH _ hx,aS (by omega)];dsimp only[oT];cases aj x.1 no <;> rfl) (fun a=>by
  show sZ no jE (ae jE) (jE.length:Int) (0,0,0,())=_;rfl)
 rw[my]at h;have h':MD no jE (ae jE) 0 (0,0,0,())=_:=h;refine(bn h').trans ?_;unfold Jz;cases jE.find? _ <;> rfl
theorem tO(no:Int):no=2∨no=3∨no=4∨no=7∨no=11∨no=14∨no=37∨no=38∨no=39∨no=41∨no=48∨no=49∨no=54∨no=95∨no=102∨no=103∨∀ k∈[2,3,4,7,11,14,37,38,39,41,48,49,54,95,102,103],aj no k=false/\aj k no=false:=by
 by_cases h:∀ k∈[2,3,4,7,11,14,37,38,39,41,48,49,54,95,102,103],no≠k
 . have:∀ k∈[2,3,4,7,11,14,37,38,39,41,48,49,54,95,102,103],aj no k=false/\aj k no=false:=fun k hk=>⟨beq_eq_false_iff_ne.2 (h k hk),beq_eq_false_iff_ne.2 (Ne.symm (h k hk))⟩
   iterate 16 right
   exact this
 . simp only[Classical.not_forall,Classical.not_not]at h;obtain⟨k,hk,rfl⟩:=h;simp only[aew,List.not_mem_nil,or_false]at hk;rcases hk with h | h | h | h | h | h | h | h | h | h | h | h | h | h | h | h <;> simp[h]
theorem AF{no:Int}(h:∀ k∈[2,3,4,7,11,14,37,38,39,41,48,49,54,95,102,103],aj no k=false/\aj k no=false):Jz no=(0,0,0,()):=by unfold Jz jE;simp only[List.find?_cons,(h 2 (by simp)).2,(h 3 (by simp)).2,(h 4 (by simp)).2,(h 7 (by simp)).2,(h 11 (by simp)).2,(h 14 (by simp)).2,(h 37 (by simp)).2,(h 38 (by simp)).2,(h 39 (by simp)).2,(h 41 (by simp)).2,(h 48 (by simp)).2,(h 49 (by simp)).2,(h 54 (by simp)).2,(h 95 (by simp)).2,(h 102 (by simp)).2,(h 103 (by simp)).2,List.find?_nil,Option.getD_none]
theorem tr(no:Int):BJ no=zR (bg no):=by
 rcases tO no with rfl | rfl | rfl | rfl | rfl | rfl | rfl | rfl | rfl | rfl | rfl | rfl | rfl | rfl | rfl | rfl | h
 all_goals first | rfl | skip
 unfold BJ bg;rw[AF h];simp only[(h 2 (by simp)).1,(h 3 (by simp)).1,(h 4 (by simp)).1,(h 7 (by simp)).1,(h 11 (by simp)).1,(h 14 (by simp)).1,(h 37 (by simp)).1,(h 38 (by simp)).1,(h 39 (by simp)).1,(h 41 (by simp)).1,(h 48 (by simp)).1,(h 49 (by simp)).1,(h 54 (by simp)).1,(h 95 (by simp)).1,(h 102 (by simp)).1,(h 103 (by simp)).1,oF]
theorem yz(no:Int):ET no=zR (fE no):=by
 rcases tO no with rfl | rfl | rfl | rfl | rfl | rfl | rfl | rfl | rfl | rfl | rfl | rfl | rfl | rfl | rfl | rfl | h
 all_goals first | rfl | skip
 unfold ET fE;rw[AF h];simp only[(h 2 (by simp)).1,(h 3 (by simp)).1,(h 4 (by simp)).1,(h 7 (by simp)).1,(h 11 (by simp)).1,(h 14 (by simp)).1,(h 37 (by simp)).1,(h 38 (by simp)).1,(h 39 (by simp)).1,(h 41 (by simp)).1,(h 48 (by simp)).1,(h 49 (by simp)).1,(h 54 (by simp)).1,(h 95 (by simp)).1,(h 102 (by simp)).1,(h 103 (by simp)).1,oF]
theorem qJ(no:Int):Ar no=zR (bg no):=by unfold Ar; rw[MU];try rfl
theorem MC(no:Int):NK no=zR (fE no):=by unfold NK; rw[MU];try rfl
theorem kinds(no:Int):∃ n:Nat,fE no=n/\((bg no=0/\n=0)∨(bg no=1/\1<=n/\n<=12)∨(bg no=2/\1<=n/\n<=12)∨(bg no=3/\n=19)∨(bg no=4/\n=20)∨(bg no=5/\n=60)):=by
 rcases tO no with rfl | rfl | rfl | rfl | rfl | rfl | rfl | rfl | rfl | rfl | rfl | rfl | rfl | rfl | rfl | rfl | h
 . exact⟨19,rfl,by decide⟩
 . exact⟨6,rfl,by decide⟩
 . exact⟨12,rfl,by decide⟩
 . exact⟨10,rfl,by decide⟩
 . exact⟨6,rfl,by decide⟩
 . exact⟨4,rfl,by decide⟩
 . exact⟨12,rfl,by decide⟩
 . exact⟨6,rfl,by decide⟩
 . exact⟨2,rfl,by decide⟩
 . exact⟨8,rfl,by decide⟩
 . exact⟨60,rfl,by decide⟩
 . exact⟨3,rfl,by decide⟩
 . exact⟨60,rfl,by decide⟩
 . exact⟨12,rfl,by decide⟩
 . exact⟨20,rfl,by decide⟩
 . exact⟨20,rfl,by decide⟩
 . exact⟨0,by unfold fE; rw[AF h];try rfl,.inl ⟨by unfold bg; rw[AF h],rfl⟩⟩
theorem dN{b:aD}{a n:Nat}{s:S8}(h:gP b a n=some s):s.all er=true/\s.length=n/\1<=n/\n<=38/\a+(n+1) / 2<=b.length:=by
 unfold gP at h;split at h
 . rename_i h1;split at h
   . rename_i h2;cases h;have hl:(qg (fM b a ((n+1) / 2))).length=2 * ((n+1) / 2):=by rw[sj,mK h1.2.2]
     refine⟨aeG.2 fun x hx=>aeG.1 h2.1 x (agI hx),?_,h1⟩;rw[af9,hl];omega
   . simp at h
 . simp at h
theorem l7{s:S8}{n:Nat}(h:s.length=n)(hn:1<=n):s≠[]:=fun e=>by rw[e]at h; simp only[ae7]at h; omega
theorem DG{s:S8}{n:Nat}(h:s.all er=true)(hl:s.length=n)(h1:1<=n)(h2:n<=18):za s=some (l6 0 s):=by unfold za;rw[if_pos ⟨cW.2 ⟨h,l7 hl h1⟩,by omega⟩]
def H8(b:aD)(a d:Nat):Option (Unit×((Int×Unit)×(Int×Unit)×(Bool×Unit)×Unit)):=some ((),match gP b a d with | some t=>(((l6 0 t:Int),()),(((a+(d+1) / 2:Nat):Int),()),(true,()),()) | none=>((0,()),(0,()),(false,()),()))
theorem JF:JV []=some ((),((0,()),(false,()),())):=GX [] (aeC _)
theorem Zn(b:aD)(a d:Nat)(hb:zz b)(ha:a<=b.length)(hd:d=2∨d=3):LQ b a d=H8 b a d:=by
 have hbig:=bb;unfold LQ H8;have hc:cond (!(aj (d:Int) 2)) (!(aj (d:Int) 3)) false=false:=by rcases hd with rfl | rfl <;> rfl
 rw[hc,DL b a d hb ha (by omega)];unfold rV;cases ho:gP b a d with
 | none => refine(bn JF).trans ?_;rfl
 | some t => obtain⟨h1,h2,h3,h4,h5⟩:=dN ho;have hn:JV t=_:=GX t (by omega);rw[DG h1 h2 h3 (by omega)]at hn;refine(bn hn).trans ?_;rfl
theorem XU(b:aD)(a d:Nat)(hb:zz b)(ha:a<=b.length)(hd:d=2∨d=3):JH b a d=H8 b a d:=by
 have hbig:=bb;unfold JH H8;rw[jS,bl.2 (by omega:(2:Int)<=d/\(d:Int)<=3),Hs b a d hb ha (by omega)];unfold rV;cases ho:gP b a d with
 | none=>rfl
 | some t => obtain⟨h1,h2,h3,h4,h5⟩:=dN ho;have hn:E5 t=_:=S2 t (by omega);rw[DG h1 h2 h3 (by omega)]at hn;refine(bn hn).trans ?_;rfl
def cV(no:Int)(s:S8):Bool:=cond (aj (bg no) 1) (cond (aF s) (aj (ae s) (fE no)) false) (cond (aj (bg no) 2) (cond (cP s) (aj (ae s) (fE no)) false) (cond (aj (bg no) 3) (cond (aF s) (cE (ae s) 1 (fE no)) false) (cond (aj (bg no) 4) (cond (cP s) (cE (ae s) 1 (fE no)) false) (cond (aj (bg no) 5) (cond (cP s) (cE (ae s) 1 (fE no)) false) false))))
theorem xU(no:Int)(s:S8)(hs:s.length<=bG):vo no s=zR (cV no s):=by
 unfold vo cV;rw[tr,yz];dsimp only[oB];rw[fe s hs,HC s hs];dsimp only[oB];rw[mo];dsimp only[oB];cases aj (bg no) 1 with
 | true=>rfl
 | false =>
 cases aj (bg no) 2 with
 | true=>rfl
 | false =>
 cases aj (bg no) 3 with
 | true =>
   show zR (cond (aF s) (bM (ae s) (fE no)) false)=zR (cond (aF s) (cE (ae s) 1 (fE no)) false);cases hd:aF s with
   | false=>rfl
   | true =>
     have h1:bM 1 (ae s)=true:=by
      have:=(cW.1 hd).2;cases s with
      | nil=>exact absurd rfl this
      | cons x r=>exact aes (by show(1:Int)<=((r.length+1:Nat):Int); omega)
     unfold cE;rw[h1];try rfl
 | false =>
 cases aj (bg no) 4 with
 | true=>cases cP s <;> rfl
 | false =>
 cases aj (bg no) 5 with
 | true=>cases cP s <;> rfl
 | false=>rfl
theorem B4(no:Int)(s:S8)(hs:s.length<=bG):qt no s=zR (cV no s):=by
 unfold qt cV;rw[MU,gS s hs,QE s hs];dsimp only[oB];rw[jS];dsimp only[oB];show cond (aj (bg no) 1) _ (cond (aj (bg no) 2) _ (cond (aj (bg no) 3) _ (cond (aj (bg no) 4) _ (cond (aj (bg no) 5) _ _))))=_;cases aj (bg no) 1 with
 | true=>rfl
 | false =>
 cases aj (bg no) 2 with
 | true=>rfl
 | false =>
 cases aj (bg no) 3 with
 | true=>cases aF s <;> rfl
 | false =>
 cases aj (bg no) 4 with
 | true=>cases cP s <;> rfl
 | false =>
 cases aj (bg no) 5 with
 | true=>cases cP s <;> rfl
 | false=>rfl
def pF(b:aD)(a n:Nat):Option (S8×Nat):=if a+n<=b.length then (bif cP (strOf (fM b a n))then some (strOf (fM b a n),a+n)else none)else none
def sg(b:aD)(a n:Nat):Option (S8×Nat):=(gP b a n).map fun s=>(s,a+(n+1) / 2)
def A8(b:aD)(a d n:Nat)(f:Nat->Nat->Option (S8×Nat)):Option (S8×Nat):=match gP b a d with
 | some t=>if 1<=l6 0 t/\l6 0 t<=n then f (a+(d+1) / 2) (l6 0 t)else none
 | none=>none
def po(b:aD)(a:Nat)(no:Int):Option (S8×Nat) :=
 if bg no=1 then sg b a (fE no).toNat else if bg no=2 then pF b a (fE no).toNat
 else if bg no=3 then A8 b a 2 (fE no).toNat (sg b)else if bg no=4 then A8 b a 2 (fE no).toNat (pF b)
 else if bg no=5 then A8 b a 3 (fE no).toNat (pF b)else none
def mP(o:Option (S8×Nat)):Option (Unit×((S8×Unit)×(Int×Unit)×(Bool×Unit)×Unit)):=some ((),match o with | some s=>((s.1,()),((s.2:Int),()),(true,()),()) | none=>(([],()),(0,()),(false,()),()))
theorem mh(p:aD):(strOf p).length=p.length:=by unfold strOf; exact afO _
theorem GB(b:aD)(a n:Nat):(match rV (gP b a n) ((a+(n+1) / 2:Nat):Int)with | some y=>some ((),(y.2.1,y.2.2.1,y.2.2.2.1,())) | none=>none)=mP (sg b a n):=by unfold rV sg mP;cases gP b a n <;> rfl
noncomputable def Qr(b:aD)(a n:Int):Option (Unit×((S8×Unit)×(Int×Unit)×(Bool×Unit)×Unit)) :=
 cond (cond (aG (ae b) a) true (aG (aW .i64 (ae b) a) n)) (some ((),(([],()),(0,()),(false,()),()))) (cond (dZ a (aw .i64 a n) b) (Option.bind (BC (strOf (sub b a (aw .i64 a n)))) fun y=>cond (!y.2.1.1) (some ((),(([],()),(0,()),(false,()),()))) (cond (dZ a (aw .i64 a n) b) (some ((),((strOf (sub b a (aw .i64 a n)),()),(aw .i64 a n,()),(true,()),()))) none)) none)
theorem La(b:aD)(a n:Nat)(hb:zz b)(ha:a<=b.length)(hn:n<=1048576) :
 Qr b a n=mP (pF b a n):=by
 have hbig:=bb;have hl:=hb.1;have e:aW .i64 (ae b) (a:Int)=(b.length:Int)-a:=bp (by show -4611686018427387904<=(b.length:Int)-a; omega) (by show(b.length:Int)-a<=_; omega);have e2:aw .i64 (a:Int) (n:Int)=((a+n:Nat):Int):=by rw[cw (by omega) (by omega)]; omega
 unfold pF Qr;rw[e,e2,aJ (a:=ae b) (b:=(a:Int)) (by show ¬ (b.length:Int)<a; omega)];by_cases h:a+n<=b.length;rotate_left
 . rw[if_neg h,aO (by omega)];try rfl
 have hs:strOf (sub b (a:Int) ((a+n:Nat):Int))=strOf (fM b a n):=aeU strOf (N1 b a n);rw[if_pos h,aJ (by omega),GL h,hs,HC _ (by rw[mh,mK h]; omega)];dsimp only[oB,oF,oT];cases cP (strOf (fM b a n)) <;> rfl
theorem aaD(b:aD)(a:Nat)(no:Int)(hb:zz b)(ha:a<=b.length):g80 b a no=mP (po b a no):=by
 have hbig:=bb;have hl:=hb.1;obtain⟨n,hn,hk⟩:=kinds no;have h0:aG (a:Int) 0=false:=aJ (by omega)
 have hvar:∀(d:Nat) (w:Int) (f:Nat->Nat->Option (S8×Nat)) (F:Int->Int->Option (Unit×((S8×Unit)×(Int×Unit)×(Bool×Unit)×Unit))),(d=2∨d=3)->(∀ a' k:Nat,a'<=b.length->k<=1048576->F (a':Int) (k:Int)=mP (f a' k)) ->
  (Option.bind (LQ b a d) fun y5=>cond (!y5.2.2.2.1.1) (some ((),(([],()),(0,()),(false,()),()))) (Option.bind (rM y5.2.1.1 1 (n:Int)) fun y6=>cond (!y6.2.1.1) (some ((),(([],()),(0,()),(false,()),()))) (F y5.2.2.1.1 y5.2.1.1)))=mP (A8 b a d n f):=by
  intro d w f F hd hF;rw[Zn b a d hb ha hd];unfold H8 A8;cases ho:gP b a d with
  | none=>rfl
  | some t =>
    obtain⟨h1,h2,h3,h4,h5⟩:=dN ho;have hv:=BI t 0 0 h1 (by decide);have hv2:l6 0 t<1000:=aeK hv (by rw[aex,h2]; exact agL (by decide) (by omega:d<=3));dsimp only[oB];rw[mo];dsimp only[oB];by_cases hin:1<=l6 0 t/\l6 0 t<=n
    . rw[if_pos hin,bl.2 (by omega)];exact hF _ _ h5 (by omega)
    . rw[if_neg hin];have:cE (l6 0 t:Int) 1 (n:Int)=false:=by
       cases h:cE (l6 0 t:Int) 1 (n:Int)with
       | false=>rfl
       | true=>have:=bl.1 h; omega
      rw[this];try rfl
 unfold g80 po;rw[tr,yz,hn,h0];have hnn:Int.toNat (n:Int)=n:=afs n;rcases hk with ⟨hk,hz⟩ | ⟨hk,hz⟩ | ⟨hk,hz⟩ | ⟨hk,hz⟩ | ⟨hk,hz⟩ | ⟨hk,hz⟩
 . rw[hk];try rfl
 . rw[hk,hnn];show(Option.bind (Jo b a n) fun y=>some ((),(y.2.1,y.2.2.1,y.2.2.2.1,())))=mP (sg b a n);rw[DL b a n hb ha (by omega),<- GB];try rfl
 . rw[hk,hnn];exact La b a n hb ha (by omega)
 . rw[hk,hnn];exact hvar 2 0 (sg b) (fun a' k=>Option.bind (Jo b a' k) fun y=>some ((),(y.2.1,y.2.2.1,y.2.2.2.1,()))) (.inl rfl) fun a' k ha' hk'=>by show(Option.bind (Jo b (a':Int) (k:Int)) _)=_;rw[DL b a' k hb ha' hk',<- GB];try rfl
 . rw[hk,hnn];exact hvar 2 0 (pF b) (Qr b) (.inl rfl) fun a' k ha' hk'=>La b a' k hb ha' hk'
 . rw[hk,hnn];exact hvar 3 0 (pF b) (Qr b) (.inr rfl) fun a' k ha' hk'=>La b a' k hb ha' hk'
noncomputable def I7(b:aD)(no a n:Int):Option (Unit×((S8×Unit)×(Int×Unit)×(Bool×Unit)×Unit)) :=
 Option.bind (ME b a n) fun y5=>cond (!y5.2.2.2.1.1) (some ((),(([],()),(0,()),(false,()),()))) (Option.bind (qt no y5.2.1.1) fun y6=>cond (!y6.2.1.1) (some ((),(([],()),(0,()),(false,()),()))) (some ((),(y5.2.1,y5.2.2.1,(true,()),()))))
noncomputable def Cv(b:aD)(no a n:Int):Option (Unit×((S8×Unit)×(Int×Unit)×(Bool×Unit)×Unit)) :=
 Option.bind (A7 b a n) fun y5=>cond (!y5.2.2.1.1) (some ((),(([],()),(0,()),(false,()),()))) (Option.bind (qt no (strOf y5.2.1.1)) fun y6=>cond (!y6.2.1.1) (some ((),(([],()),(0,()),(false,()),()))) (some ((),((strOf y5.2.1.1,()),(aw .i64 a n,()),(true,()),()))))
theorem GJ(b:aD)(no:Int)(a n:Nat)(hb:zz b)(ha:a<=b.length)(hn:n<=1048576):I7 b no a n=mP ((sg b a n).filter fun s=>cV no s.1):=by
 have hbig:=bb;unfold I7 sg;rw[Hs b a n hb ha hn];unfold rV;cases ho:gP b a n with
 | none=>rfl
 | some s => obtain⟨h1,h2,h3,h4,h5⟩:=dN ho;dsimp only[oB];rw[B4 no s (by omega)];dsimp only[oB,Option.map_some];rw[agc];dsimp only;cases cV no s <;> rfl
def H4(b:aD)(a n:Nat):Option (S8×Nat):=if a+n<=b.length then some (strOf (fM b a n),a+n)else none
theorem vF(b:aD)(no:Int)(a n:Nat)(hb:zz b)(ha:a<=b.length)(hn:n<=1048576):Cv b no a n=mP ((H4 b a n).filter fun s=>cV no s.1):=by
 have hbig:=bb;have hl:=hb.1;unfold Cv H4;rw[BR b a n hb.1 ha hn];by_cases h:a+n<=b.length;rotate_left
 . rw[if_neg h,if_neg h];try rfl
 rw[if_pos h,if_pos h,agc];have hf:=B4 no (strOf (fM b a n)) (by rw[mh,mK h]; omega);refine(bn hf).trans ?_;have e2:aw .i64 (a:Int) (n:Int)=((a+n:Nat):Int):=by rw[cw (by omega) (by omega)]; omega
 show cond (!(cV no (strOf (fM b a n)))) _ (some ((),((_,()),(aw .i64 (a:Int) (n:Int),()),(true,()),())))=_;rw[e2];dsimp only;cases cV no (strOf (fM b a n)) <;> rfl
theorem KP(b:aD)(a d:Nat)(hb:zz b)(ha:a<=b.length)(hd:d=2∨d=3)(F:Int->Int->Option (Unit×((S8×Unit)×(Int×Unit)×(Bool×Unit)×Unit)))(f:Nat->Nat->Option (S8×Nat))(n:Nat)
 (hF:∀ a' k:Nat,a'<=b.length->k<=1048576->F (a':Int) (k:Int)=mP (if 1<=k/\k<=n then f a' k else none)) :
 (Option.bind (JH b a d) fun y4=>cond (!y4.2.2.2.1.1) (some ((),(([],()),(0,()),(false,()),()))) (F y4.2.2.1.1 y4.2.1.1))=mP (A8 b a d n f):=by
 rw[XU b a d hb ha hd];unfold H8 A8;cases ho:gP b a d with
 | none=>rfl
 | some t => obtain⟨h1,h2,h3,h4,h5⟩:=dN ho;have hv:=BI t 0 0 h1 (by decide);have hv2:l6 0 t<1000:=aeK hv (by rw[aex,h2]; exact agL (by decide) (by omega:d<=3));exact hF _ _ h5 (by omega)
theorem kj{s:S8}{n:Nat}(h:s.length=n):ae s=(n:Int):=by show(s.length:Int)=n; rw[h]
theorem rN{k n:Nat}:cE (k:Int) 1 (n:Int)=decide (1<=k/\k<=n):=by
 by_cases h:1<=k/\k<=n
 . rw[aes h]; exact bl.2 (by omega)
 . rw[aeL h];cases h2:cE (k:Int) 1 (n:Int)with
   | false=>rfl
   | true=>have:=bl.1 h2; omega
theorem rK{no:Int}{n:Nat}(hn:fE no=n)(s:S8):(bg no=1->cV no s=cond (aF s) (aj (ae s) (n:Int)) false)/\(bg no=2->cV no s=cond (cP s) (aj (ae s) (n:Int)) false)/\(bg no=3->cV no s=cond (aF s) (cE (ae s) 1 (n:Int)) false) /\
 ((bg no=4∨bg no=5)->cV no s=cond (cP s) (cE (ae s) 1 (n:Int)) false):=by
 unfold cV;rw[hn];refine⟨fun h=>by rw[h];try rfl,fun h=>by rw[h];try rfl,fun h=>by rw[h];try rfl,fun h => ?_⟩;rcases h with h | h <;> (rw[h];try rfl)
theorem Hf{b:aD}{no:Int}{n:Nat}(hn:fE no=n)(hk:bg no=4∨bg no=5)(a k:Nat):(H4 b a k).filter (fun s=>cV no s.1)=if 1<=k/\k<=n then pF b a k else none:=by
 unfold H4 pF;by_cases h:a+k<=b.length;rotate_left
 . rw[if_neg h,if_neg h]; simp
 rw[if_pos h,if_pos h,agc];dsimp only;rw[(rK hn _).2.2.2 hk,kj (by rw[mh,mK h]:(strOf (fM b a k)).length=k),rN];by_cases hin:1<=k/\k<=n
 . rw[aes hin,if_pos hin]; cases cP (strOf (fM b a k)) <;> rfl
 . rw[aeL hin,if_neg hin]; cases cP (strOf (fM b a k)) <;> rfl
theorem Xv(b:aD)(a:Nat)(no:Int)(hb:zz b)(ha:a<=b.length):Ms b a no=mP (po b a no):=by
 have hbig:=bb;have hl:=hb.1;obtain⟨n,hn,hk⟩:=kinds no;have hnn:Int.toNat (n:Int)=n:=afs n;have hlen:CF no=zR (cond (aj (bg no) 5) 3 2):=by unfold CF;rw[qJ];dsimp only[oB];cases aj (bg no) 5 <;> rfl
 have base:Ms b a no=cond (cond (cond (aj (bg no) 3) true (aj (bg no) 4)) true (aj (bg no) 5)) (Option.bind (JH b a (cond (aj (bg no) 5) 3 2)) fun y4=>cond (!y4.2.2.2.1.1) (some ((),(([],()),(0,()),(false,()),()))) (cond (cond (aj (bg no) 1) true (aj (bg no) 3)) (I7 b no y4.2.2.1.1 y4.2.1.1) (Cv b no y4.2.2.1.1 y4.2.1.1)))
  (cond (cond (aj (bg no) 1) true (aj (bg no) 3)) (I7 b no a (n:Int)) (Cv b no a (n:Int))):=by
  unfold Ms;rw[MC,qJ,hlen,hn];try rfl
 rw[base];unfold po;rw[hn,hnn];rcases hk with ⟨hk,hz⟩ | ⟨hk,hz⟩ | ⟨hk,hz⟩ | ⟨hk,hz⟩ | ⟨hk,hz⟩ | ⟨hk,hz⟩
 . rw[hk];show Cv b no a (n:Int)=mP none;rw[vF b no a n hb ha (by omega)];have:∀ s,cV no s=false:=fun s=>by unfold cV; rw[hk];try rfl
   unfold H4;by_cases h:a+n<=b.length
   . rw[if_pos h,agc,this];try rfl
   . rw[if_neg h];try rfl
 . rw[hk];show I7 b no a (n:Int)=mP (sg b a n);rw[GJ b no a n hb ha (by omega)];unfold sg;cases ho:gP b a n with
   | none=>rfl
   | some s => obtain⟨h1,h2,h3,h4,h5⟩:=dN ho;rw[aeM,agc];dsimp only;rw[(rK hn s).1 hk,cW.2 ⟨h1,l7 h2 h3⟩,kj h2,bX];try rfl
 . rw[hk];show Cv b no a (n:Int)=mP (pF b a n);rw[vF b no a n hb ha (by omega)];unfold H4 pF;by_cases h:a+n<=b.length;rotate_left
   . rw[if_neg h,if_neg h];try rfl
   rw[if_pos h,if_pos h,agc];dsimp only;rw[(rK hn _).2.1 hk,kj (by rw[mh,mK h]:(strOf (fM b a n)).length=n),bX];cases cP (strOf (fM b a n)) <;> rfl
 . rw[hk];exact KP b a 2 hb ha (.inl rfl) (I7 b no) (sg b) n fun a' k ha' hk'=>by
    rw[GJ b no a' k hb ha' hk'];unfold sg;cases ho:gP b a' k with
    | none => show mP none=mP (if _ then none else none);rw[ite_self]
    | some s =>
      obtain⟨h1,h2,h3,h4,h5⟩:=dN ho;rw[aeM,agc];dsimp only;rw[(rK hn s).2.2.1 hk,cW.2 ⟨h1,l7 h2 h3⟩,kj h2,rN];by_cases hin:1<=k/\k<=n
      . rw[aes hin,if_pos hin];try rfl
      . rw[aeL hin,if_neg hin];try rfl
 . rw[hk];exact KP b a 2 hb ha (.inl rfl) (Cv b no) (pF b) n fun a' k ha' hk'=>by rw[vF b no a' k hb ha' hk',Hf hn (.inl hk)]
 . rw[hk];exact KP b a 3 hb ha (.inr rfl) (Cv b no) (pF b) n fun a' k ha' hk'=>by rw[vF b no a' k hb ha' hk',Hf hn (.inr hk)]
theorem tE{b:aD}{a:Nat}{no:Int}{s:S8}{e:Nat}(ha:a<=b.length)(h:po b a no=some (s,e)):cV no s=true/\s.length<=60/\e<=b.length:=by
 obtain⟨n,hn,hk⟩:=kinds no;have hnn:Int.toNat (n:Int)=n:=afs n;have num:∀ a k,sg b a k=some (s,e)->s.all er=true/\s.length=k/\1<=k/\e<=b.length:=fun a k h=>by unfold sg at h;obtain⟨q,hq,h⟩:=afS.1 h;cases h;obtain⟨h1,h2,h3,h4,h5⟩:=dN hq;exact⟨h1,h2,h3,h5⟩
 have txt:∀ a k,pF b a k=some (s,e)->cP s=true/\s.length=k/\e<=b.length:=fun a k h=>by
  unfold pF at h;split at h
  . rename_i hl;cases hp:cP (strOf (fM b a k))with
    | false=>rw[hp]at h; simp at h
    | true => rw[hp]at h;cases h;exact⟨hp,by rw[mh,mK hl],hl⟩
  . simp at h
 have var:∀ d f,A8 b a d n f=some (s,e)->∃ a' k,1<=k/\k<=n/\f a' k=some (s,e):=fun d f h=>by
  unfold A8 at h;split at h
  . split at h
    . rename_i hin;exact⟨_,_,hin.1,hin.2,h⟩
    . simp at h
  . simp at h
 unfold po at h;rw[hn,hnn]at h;rcases hk with ⟨hk,hz⟩ | ⟨hk,hz⟩ | ⟨hk,hz⟩ | ⟨hk,hz⟩ | ⟨hk,hz⟩ | ⟨hk,hz⟩ <;> rw[hk]at h
 . simp at h
 . obtain⟨h1,h2,h3,h4⟩:=num _ _ h;exact⟨by rw[(rK hn s).1 hk,cW.2 ⟨h1,l7 h2 h3⟩,kj h2,bX];try rfl,by omega,h4⟩
 . obtain⟨h1,h2,h4⟩:=txt _ _ h;exact⟨by rw[(rK hn s).2.1 hk,h1,kj h2,bX];try rfl,by omega,h4⟩
 . obtain⟨a',k,k1,k2,h⟩:=var _ _ h;obtain⟨h1,h2,h3,h4⟩:=num _ _ h;exact⟨by rw[(rK hn s).2.2.1 hk,cW.2 ⟨h1,l7 h2 h3⟩,kj h2,rN,aes ⟨k1,k2⟩];try rfl,by omega,h4⟩
 . obtain⟨a',k,k1,k2,h⟩:=var _ _ h;obtain⟨h1,h2,h4⟩:=txt _ _ h;exact⟨by rw[(rK hn s).2.2.2 (.inl hk),h1,kj h2,rN,aes ⟨k1,k2⟩];try rfl,by omega,h4⟩
 . obtain⟨a',k,k1,k2,h⟩:=var _ _ h;obtain⟨h1,h2,h4⟩:=txt _ _ h;exact⟨by rw[(rK hn s).2.2.2 (.inr hk),h1,kj h2,rN,aes ⟨k1,k2⟩];try rfl,by omega,h4⟩
end Go.Av
